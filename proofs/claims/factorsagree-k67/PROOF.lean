import PyProof.Rows.All
import Wide.All
import OpenK.AllK
import Wide.FinOn
import HandS.ForMost
import HandS.ForExc
import HandS.CallSlots
import HandS.Wide
import HandS.IsInst
import HandS.TupAny
import HandS.TupLe
import HandS.Small
import HandS.AnyAll
import HandS.TupSets
import HandS.ExcCtx
import HandS.HotCalls
import HandS.Defaults
import KE.SortData
import HandS.Gcd
import HandS.Codes
import HandS.Zip
import HandS.Rev
import HandS.RevTup
import HandS.Conv
import HandS.More
import PyProof.GenArm
import PyProof.GenQ
import HandS.GenOver
import HandS.DictComp
import HandS.Star
import HandS.HeadHook4
import HandS.SetBool
import HandS.Style
import HandS.HeadWalk
import HandS.Head2
import HandS.HeadEnd
import HandS.DeepEq
import HandS.Lambda
import KE.SortUse
import KE.KIndexOf
import HandS.Deep
import KE.GoesEnum
import HandS.Strs
import HandS.TupMul
import KE.KDictPairs
import HandS.Head3
import PySem.Challenge.RW_factorsagree_k67_whole_tasks_of_orders
set_option Elab.async false
set_option linter.all false
set_option maxRecDepth 100000
set_option maxHeartbeats 4000000
namespace DL
open PySem PySem.Spec PyProof.Rows L2

/-- the program, the world, the written part -/
structure KP where
  P : Program
  w : World
  K : PySem.W.Frag
  tabs : List Addr
  lams : List (Addr × Str)
/-- a dict whose keys are tuples: its entries, each key with the address of its tuple -/
abbrev TE3 := List (List Key × Addr × Value)
def TDok (K : KP) (a : Addr) (xs : TE3) (h : Heap) : Prop := xs.length ≤ sizeLine ∧ (a == sysModules) = false ∧ ∃ o es ep, h.get? a = some o ∧ o.ExactDict ∧ o.data = .dict es ep ∧ es.toList = xs.map (entryOfKey (tupleKind (mixKind K.P K.w))) ∧ (xs.map (·.1)).Nodup
def TD (K : KP) (a : Addr) (xs : TE3) : HO := .ext (TDok K a xs)
theorem TDok.at {K : KP} {a : Addr} {xs : TE3} {h h' : Heap} (x : TDok K a xs h) (k : ∀ o, h.get? a = some o → h'.get? a = some o) : TDok K a xs h' :=
  let ⟨h1, h2, o, es, ep, e, r⟩ := x; ⟨h1, h2, o, es, ep, k o e, r⟩
theorem td_new {K : KP} {P : Program} {w : World} {H : Hp} {h : Heap} {a : Addr} {xs : TE3} (x : TDok K a xs h) : ObjOk P w H h a (TD K a xs) :=
  ⟨x, let ⟨_, _, o, _, _, e, _⟩ := x; ⟨o, e⟩, fun _ _ y k => y.at k⟩
/-- the same with values -/
inductive KS (F : PySem.W.Frag) (H : Hp) : TE3 → List (List Key × V) → Prop
  | nil : KS F H [] []
  | cons {k : List Key} {q : Addr} {u : Value} {v : V} {xs : TE3} {kvs : List (List Key × V)} : SqT F H q (k.map kV) → RelV v u → KS F H xs kvs → KS F H ((k, q, u) :: xs) ((k, v) :: kvs)
theorem KS.mono {F : PySem.W.Frag} {H H' : Hp} (e : ∀ a xs, SqT F H a xs → SqT F H' a xs) : ∀ {xs : TE3} {kvs : List (List Key × V)}, KS F H xs kvs → KS F H' xs kvs
  | _, _, .nil => .nil
  | _, _, .cons h r t => .cons (e _ _ h) r (KS.mono e t)
theorem KS.length {F : PySem.W.Frag} {H : Hp} : ∀ {xs : TE3} {kvs : List (List Key × V)}, KS F H xs kvs → xs.length = kvs.length
  | _, _, .nil => rfl
  | _, _, .cons _ _ t => by simp only [List.length_cons, KS.length t]

inductive D where
  | non | bl (b : Bool) | int (i : Int) | str (s : Str)
  | tup (l : List D) | lst (l : List D) | dct (t : Bool) (l : List (D × D)) | ref (n : Nat) | obj (a : Addr) | ty (n : String) | set (l : List (List Int)) | seti (l : List Int) | tpn (l : List D)

inductive O where
  | lst (l : List D) | dct (t : Bool) (l : List (D × D)) | ins (C : Addr) (fs : List (Str × D)) | dead
abbrev Mem := List O

structure Wd where
  β : List Addr
  M : Mem
  H : Hp
  pv : List Addr
def Wd.frz (W : Wd) (a : Addr) : Prop := (∀ n : Nat, W.β[n]? = some a → W.M[n]? = some O.dead) ∧ a ∉ W.pv

def kD : Key → D
  | .inl i => .int i
  | .inr x => .str x
def ktD (k : List Key) : D := .tup (k.map kD)

/-- a list that the program's top wrote (the script may be one, for all that is known) -/
def KLst (F : PySem.W.Frag) (a : Addr) (xs : List V) : Prop := ∃ (o : Obj) (its : Array Value) (n : Nat), F.lookup a = some o ∧ o.cls = .type "list" ∧ o.dict = none ∧ o.data = .seq its n ∧ its.size ≤ sizeLine ∧ Vals xs its.toList
/-- a set of tuples of ints that is done: its members in some order -/
def SetAt (K : KP) (W : Wd) (a : Addr) (l : List (List Int)) : Prop := ∃ (o : Obj) (L : List (Addr × List Int)), W.H a = some (.frz o (SetTO K.P K.w a L)) ∧ (∀ p ∈ L, SqT K.K W.H p.1 (p.2.map V.int)) ∧ (L.map (·.2)).Perm l
/-- a set of ints that is done -/
def SetIAt (W : Wd) (a : Addr) (l : List Int) : Prop := ∃ (o : Obj) (S : Int → Bool) (n : Nat), W.H a = some (.frz o (.set S n)) ∧ l.Nodup ∧ n = l.length ∧ ∀ i, S i = decide (i ∈ l)
mutual
inductive Rp (K : KP) (W : Wd) : V → D → Prop
  | non : Rp K W .non .non
  | bl (b : Bool) : Rp K W (.bl b) (.bl b)
  | int (i : Int) : Rp K W (.int i) (.int i)
  | str (x : Str) : Rp K W (.str x) (.str x)
  | tup {a : Addr} {xs : List V} {ds : List D} : SqT K.K W.H a xs → RpA K W xs ds → Rp K W (.ref a) (.tup ds)
  | lst {a : Addr} {xs : List V} {ds : List D} : Rd W.H a (.lst xs) → W.frz a → RpA K W xs ds → Rp K W (.ref a) (.lst ds)
  | lstK {a : Addr} {xs : List V} {ds : List D} : KLst K.K a xs → RpA K W xs ds → Rp K W (.ref a) (.lst ds)
  | dK {a : Addr} {kvs : List (Key × V)} {ds : List (D × D)} : Rd W.H a (.dK kvs) → W.frz a → RpK K W kvs ds → Rp K W (.ref a) (.dct false ds)
  | dT {a : Addr} {xs : TE3} {kvs : List (List Key × V)} {ds : List (D × D)} : Rd W.H a (TD K a xs) → W.frz a → KS K.K W.H xs kvs → RpT K W kvs ds → Rp K W (.ref a) (.dct true ds)
  | ref {n : Nat} {a : Addr} : W.β[n]? = some a → Rp K W (.ref a) (.ref n)
  | obj (a : Addr) : Rp K W (.ref a) (.obj a)
  | ty (n : String) : Rp K W (.ty n) (.ty n)
  | set {a : Addr} {l : List (List Int)} : SetAt K W a l → Rp K W (.ref a) (.set l)
  | seti {a : Addr} {l : List Int} : SetIAt W a l → Rp K W (.ref a) (.seti l)
  | tpn {a : Addr} {o : Obj} {xs : List V} {ds : List D} : W.H a = some (.frz o (.tup xs)) → o.dict = none → RpA K W xs ds → Rp K W (.ref a) (.tpn ds)
inductive RpA (K : KP) (W : Wd) : List V → List D → Prop
  | nil : RpA K W [] []
  | cons {v : V} {vs : List V} {d : D} {ds : List D} : Rp K W v d → RpA K W vs ds → RpA K W (v :: vs) (d :: ds)
inductive RpK (K : KP) (W : Wd) : List (Key × V) → List (D × D) → Prop
  | nil : RpK K W [] []
  | cons {k : Key} {v : V} {kvs : List (Key × V)} {d : D} {ds : List (D × D)} : Rp K W v d → RpK K W kvs ds → RpK K W ((k, v) :: kvs) ((kD k, d) :: ds)
inductive RpT (K : KP) (W : Wd) : List (List Key × V) → List (D × D) → Prop
  | nil : RpT K W [] []
  | cons {k : List Key} {v : V} {kvs : List (List Key × V)} {d : D} {ds : List (D × D)} : Rp K W v d → RpT K W kvs ds → RpT K W ((k, v) :: kvs) ((ktD k, d) :: ds)
end

structure Le (K : KP) (W W' : Wd) : Prop where
  β : ∀ (n : Nat) (a : Addr), W.β[n]? = some a → W'.β[n]? = some a
  t : ∀ a xs, SqT K.K W.H a xs → SqT K.K W'.H a xs
  l : ∀ a xs, Rd W.H a (.lst xs) → W.frz a → Rd W'.H a (.lst xs) ∧ W'.frz a
  k : ∀ a xs, Rd W.H a (.dK xs) → W.frz a → Rd W'.H a (.dK xs) ∧ W'.frz a
  kt : ∀ a xs, Rd W.H a (TD K a xs) → W.frz a → Rd W'.H a (TD K a xs) ∧ W'.frz a
  z : ∀ a o u, W.H a = some (.frz o u) → W'.H a = some (.frz o u)
  x : ∀ a, a ∈ W.pv → a ∈ W'.pv ∧ W'.H a = W.H a
theorem Le.refl (K : KP) (W : Wd) : Le K W W := ⟨fun _ _ h => h, fun _ _ h => h, fun _ _ h f => ⟨h, f⟩, fun _ _ h f => ⟨h, f⟩, fun _ _ h f => ⟨h, f⟩, fun _ _ _ h => h, fun _ h => ⟨h, rfl⟩⟩
theorem Le.trans {K : KP} {W W1 W2 : Wd} (a : Le K W W1) (b : Le K W1 W2) : Le K W W2 :=
  ⟨fun n x h => b.β n x (a.β n x h), fun p xs h => b.t p xs (a.t p xs h), fun p xs h f => let ⟨h1, f1⟩ := a.l p xs h f; b.l p xs h1 f1,
   fun p xs h f => let ⟨h1, f1⟩ := a.k p xs h f; b.k p xs h1 f1, fun p xs h f => let ⟨h1, f1⟩ := a.kt p xs h f; b.kt p xs h1 f1,
   fun p o u h => b.z p o u (a.z p o u h), fun p h => let ⟨h1, f1⟩ := a.x p h; let ⟨h2, f2⟩ := b.x p h1; ⟨h2, f2.trans f1⟩⟩

/-- the part of Le that values lean on -/
structure Le0 (K : KP) (W W' : Wd) : Prop where
  β : ∀ (n : Nat) (a : Addr), W.β[n]? = some a → W'.β[n]? = some a
  t : ∀ a xs, SqT K.K W.H a xs → SqT K.K W'.H a xs
  l : ∀ a xs, Rd W.H a (.lst xs) → W.frz a → Rd W'.H a (.lst xs) ∧ W'.frz a
  k : ∀ a xs, Rd W.H a (.dK xs) → W.frz a → Rd W'.H a (.dK xs) ∧ W'.frz a
  kt : ∀ a xs, Rd W.H a (TD K a xs) → W.frz a → Rd W'.H a (TD K a xs) ∧ W'.frz a
  z : ∀ a o u, W.H a = some (.frz o u) → W'.H a = some (.frz o u)
/-- Le, but a private object may have changed -/
structure LeZ (K : KP) (W W' : Wd) : Prop where
  β : ∀ (n : Nat) (a : Addr), W.β[n]? = some a → W'.β[n]? = some a
  t : ∀ a xs, SqT K.K W.H a xs → SqT K.K W'.H a xs
  l : ∀ a xs, Rd W.H a (.lst xs) → W.frz a → Rd W'.H a (.lst xs) ∧ W'.frz a
  k : ∀ a xs, Rd W.H a (.dK xs) → W.frz a → Rd W'.H a (.dK xs) ∧ W'.frz a
  kt : ∀ a xs, Rd W.H a (TD K a xs) → W.frz a → Rd W'.H a (TD K a xs) ∧ W'.frz a
  z : ∀ a o u, W.H a = some (.frz o u) → W'.H a = some (.frz o u)
theorem LeZ.zero {K : KP} {W W' : Wd} (e : LeZ K W W') : Le0 K W W' := ⟨e.β, e.t, e.l, e.k, e.kt, e.z⟩
theorem Le.toZ {K : KP} {W W' : Wd} (e : Le K W W') : LeZ K W W' := ⟨e.β, e.t, e.l, e.k, e.kt, e.z⟩
theorem LeZ.trans {K : KP} {W W1 W2 : Wd} (a : LeZ K W W1) (b : LeZ K W1 W2) : LeZ K W W2 :=
  ⟨fun n x h => b.β n x (a.β n x h), fun p xs h => b.t p xs (a.t p xs h), fun p xs h f => let ⟨h1, f1⟩ := a.l p xs h f; b.l p xs h1 f1,
   fun p xs h f => let ⟨h1, f1⟩ := a.k p xs h f; b.k p xs h1 f1, fun p xs h f => let ⟨h1, f1⟩ := a.kt p xs h f; b.kt p xs h1 f1,
   fun p o u h => b.z p o u (a.z p o u h)⟩
theorem Le.zero {K : KP} {W W' : Wd} (e : Le K W W') : Le0 K W W' := ⟨e.β, e.t, e.l, e.k, e.kt, e.z⟩
section
variable {K : KP} {W W' : Wd}
mutual
theorem Rp.mono0 (e : Le0 K W W') : ∀ {v : V} {d : D}, Rp K W v d → Rp K W' v d
  | _, _, .non => .non
  | _, _, .bl b => .bl b
  | _, _, .int i => .int i
  | _, _, .str x => .str x
  | _, _, .tup h r => .tup (e.t _ _ h) (RpA.mono0 e r)
  | _, _, .lst h f r => .lst (e.l _ _ h f).1 (e.l _ _ h f).2 (RpA.mono0 e r)
  | _, _, .lstK h r => .lstK h (RpA.mono0 e r)
  | _, _, .dK h f r => .dK (e.k _ _ h f).1 (e.k _ _ h f).2 (RpK.mono0 e r)
  | _, _, .dT h f q r => .dT (e.kt _ _ h f).1 (e.kt _ _ h f).2 (q.mono e.t) (RpT.mono0 e r)
  | _, _, .ref h => .ref (e.β _ _ h)
  | _, _, .obj a => .obj a
  | _, _, .ty n => .ty n
  | _, _, .set h => .set (let ⟨o, L, h1, h2, h3⟩ := h; ⟨o, L, e.z _ _ _ h1, fun q hq => e.t _ _ (h2 q hq), h3⟩)
  | _, _, .seti h => .seti (let ⟨o, S, n, h1, h2⟩ := h; ⟨o, S, n, e.z _ _ _ h1, h2⟩)
  | _, _, .tpn h n r => .tpn (e.z _ _ _ h) n (RpA.mono0 e r)
theorem RpA.mono0 (e : Le0 K W W') : ∀ {v : List V} {d : List D}, RpA K W v d → RpA K W' v d
  | _, _, .nil => .nil
  | _, _, .cons h t => .cons (Rp.mono0 e h) (RpA.mono0 e t)
theorem RpK.mono0 (e : Le0 K W W') : ∀ {v : List (Key × V)} {d : List (D × D)}, RpK K W v d → RpK K W' v d
  | _, _, .nil => .nil
  | _, _, .cons h t => .cons (Rp.mono0 e h) (RpK.mono0 e t)
theorem RpT.mono0 (e : Le0 K W W') : ∀ {v : List (List Key × V)} {d : List (D × D)}, RpT K W v d → RpT K W' v d
  | _, _, .nil => .nil
  | _, _, .cons h t => .cons (Rp.mono0 e h) (RpT.mono0 e t)
end
theorem Rp.mono (e : Le K W W') {v : V} {d : D} (h : Rp K W v d) : Rp K W' v d := h.mono0 e.zero
theorem RpA.mono (e : Le K W W') {v : List V} {d : List D} (h : RpA K W v d) : RpA K W' v d := h.mono0 e.zero
theorem RpK.mono (e : Le K W W') {v : List (Key × V)} {d : List (D × D)} (h : RpK K W v d) : RpK K W' v d := h.mono0 e.zero
theorem RpT.mono (e : Le K W W') {v : List (List Key × V)} {d : List (D × D)} (h : RpT K W v d) : RpT K W' v d := h.mono0 e.zero
theorem RpA.length : ∀ {v : List V} {d : List D}, RpA K W v d → v.length = d.length
  | _, _, .nil => rfl
  | _, _, .cons _ t => by simp only [List.length_cons, RpA.length t]
theorem RpA.get : ∀ {v : List V} {d : List D} {i : Nat} {x : D}, RpA K W v d → d[i]? = some x → ∃ y, v[i]? = some y ∧ Rp K W y x
  | _, _, _, _, .nil, h => by simp at h
  | _, _, 0, _, .cons h _, e => by simp at e; subst e; exact ⟨_, rfl, h⟩
  | _, _, i + 1, _, .cons _ t, e => by simpa using RpA.get t (by simpa using e)
theorem RpA.get' : ∀ {v : List V} {d : List D} {i : Nat} {y : V}, RpA K W v d → v[i]? = some y → ∃ x, d[i]? = some x ∧ Rp K W y x
  | _, _, _, _, .nil, h => by simp at h
  | _, _, 0, _, .cons h _, e => by simp at e; subst e; exact ⟨_, rfl, h⟩
  | _, _, i + 1, _, .cons _ t, e => by simpa using RpA.get' t (by simpa using e)
theorem RpA.append : ∀ {v w : List V} {d e : List D}, RpA K W v d → RpA K W w e → RpA K W (v ++ w) (d ++ e)
  | _, _, _, _, .nil, s => s
  | _, _, _, _, .cons h t, s => .cons h (RpA.append t s)
theorem RpA.one {v : V} {d : D} (h : Rp K W v d) : RpA K W [v] [d] := .cons h .nil
theorem RpA.take : ∀ {v : List V} {d : List D} (n : Nat), RpA K W v d → RpA K W (v.take n) (d.take n)
  | _, _, 0, _ => .nil
  | _, _, _ + 1, .nil => .nil
  | _, _, n + 1, .cons h t => .cons h (RpA.take n t)
theorem RpA.drop : ∀ {v : List V} {d : List D} (n : Nat), RpA K W v d → RpA K W (v.drop n) (d.drop n)
  | _, _, 0, r => r
  | _, _, _ + 1, .nil => .nil
  | _, _, n + 1, .cons _ t => RpA.drop n t
theorem RpA.set : ∀ {v : List V} {d : List D} {x : V} {y : D} (n : Nat), RpA K W v d → Rp K W x y → RpA K W (v.set n x) (d.set n y)
  | _, _, _, _, _, .nil, _ => .nil
  | _, _, _, _, 0, .cons _ t, r => .cons r t
  | _, _, _, _, n + 1, .cons h t, r => .cons h (RpA.set n t r)
theorem RpA.erase : ∀ {v : List V} {d : List D} (n : Nat), RpA K W v d → RpA K W (v.eraseIdx n) (d.eraseIdx n)
  | _, _, _, .nil => .nil
  | _, _, 0, .cons _ t => t
  | _, _, n + 1, .cons h t => .cons h (RpA.erase n t)
theorem RpA.reverse {v : List V} {d : List D} (h : RpA K W v d) : RpA K W v.reverse d.reverse := by
  induction v generalizing d with
  | nil => cases h; exact .nil
  | cons x xs ih =>
    cases h with
    | cons a b =>
      rw [List.reverse_cons, List.reverse_cons]
      exact (ih b).append (.one a)
theorem RpA.dropLast : ∀ {v : List V} {d : List D}, RpA K W v d → RpA K W v.dropLast d.dropLast
  | _, _, .nil => .nil
  | _, _, .cons _ .nil => .nil
  | _, _, .cons h (.cons a t) => .cons h (RpA.dropLast (.cons a t))
end

def OOk (K : KP) (W : Wd) (a : Addr) : O → Prop
  | .lst ds => ∃ xs, W.H a = some (.lst xs) ∧ RpA K W xs ds
  | .dct false ds => ∃ kvs, W.H a = some (.dK kvs) ∧ RpK K W kvs ds
  | .dct true ds => ∃ xs kvs, W.H a = some (TD K a xs) ∧ KS K.K W.H xs kvs ∧ RpT K W kvs ds
  | .ins C fs => ∃ dx gs, W.H a = some (.ins C dx gs) ∧ gs.map (·.1) = fs.map (·.1) ∧ RpA K W (gs.map (·.2)) (fs.map (·.2))
  | .dead => ∃ o, W.H a = some o ∧ ∀ x, o ≠ .own x
/-- a table of code objects that bear all the name q -/
def LamT (H : Hp) (P : Addr) (q : Str) : Prop := ∃ ps : Array Value, H P = some (.tbl ps) ∧ TriplesOk ps.toList ∧ ∀ (pos : Pos) (cv : Value), codeAmong pos ps.toList = some cv → ∃ (c : Addr) (oc : Obj) (u : HO) (vs : Array Value) (t : Tok), cv = .ref c ∧ H c = some (.frz oc u) ∧ oc.data = .fields vs ∧ vs[1]? = some (.str q t)
theorem LamT.mono {H H' : Hp} {P : Addr} {q : Str} (h : LamT H P q) (e : H' P = H P) (z : ∀ a o u, H a = some (.frz o u) → H' a = some (.frz o u)) : LamT H' P q := by
  obtain ⟨ps, h1, h2, h3⟩ := h
  refine ⟨ps, e.trans h1, h2, fun pos cv hc => ?_⟩
  obtain ⟨c, oc, u, vs, t, e1, e2, e3⟩ := h3 pos cv hc
  exact ⟨c, oc, u, vs, t, e1, z _ _ _ e2, e3⟩
theorem LamT.tab {H : Hp} {P : Addr} {q : Str} (h : LamT H P q) : GxR.TabG H P := let ⟨ps, h1, h2, _⟩ := h; ⟨ps, h1, h2⟩
structure Ok (K : KP) (W : Wd) : Prop where
  len : W.β.length = W.M.length
  nd : W.β.Nodup
  ob : ∀ (n : Nat) (a : Addr) (o : O), W.β[n]? = some a → W.M[n]? = some o → OOk K W a o
  pn : ∀ a ∈ W.pv, a ∉ W.β
  ph : ∀ a ∈ W.pv, ∃ xs, W.H a = some xs
  tb : ∀ a ∈ K.tabs, GxR.TabG W.H a ∧ a ∉ W.β ∧ a ∉ W.pv
  lm : ∀ p ∈ K.lams, LamT W.H p.1 p.2 ∧ p.1 ∉ W.β ∧ p.1 ∉ W.pv ∧ p.1 ∉ K.tabs ∧ ∀ r ∈ K.lams, r.1 = p.1 → r.2 = p.2
theorem OOk.mono0 {K : KP} {W W' : Wd} {a : Addr} {o : O} (e : Le0 K W W') (hH : W'.H a = W.H a) (h : OOk K W a o) : OOk K W' a o := by
  cases o with
  | lst ds => obtain ⟨xs, h1, h2⟩ := h; exact ⟨xs, by rw [hH]; exact h1, h2.mono0 e⟩
  | dct t ds =>
    cases t
    · obtain ⟨kvs, h1, h2⟩ := h
      exact ⟨kvs, by rw [hH]; exact h1, h2.mono0 e⟩
    · obtain ⟨xs, kvs, h1, h2, h3⟩ := h
      exact ⟨xs, kvs, by rw [hH]; exact h1, h2.mono e.t, h3.mono0 e⟩
  | ins C fs => obtain ⟨dx, gs, h1, h2, h3⟩ := h; exact ⟨dx, gs, by rw [hH]; exact h1, h2, h3.mono0 e⟩
  | dead => obtain ⟨u, h1⟩ := h; exact ⟨u, by rw [hH]; exact h1⟩
theorem OOk.mono {K : KP} {W W' : Wd} {a : Addr} {o : O} (e : Le K W W') (hH : W'.H a = W.H a) (h : OOk K W a o) : OOk K W' a o := h.mono0 e.zero hH
theorem OOk.there {K : KP} {W : Wd} {a : Addr} {o : O} (h : OOk K W a o) : ∃ u, W.H a = some u ∧ ∀ x, u ≠ .own x := by
  cases o with
  | lst ds => obtain ⟨xs, h1, h2⟩ := h; exact ⟨_, h1, by intro x q; cases q⟩
  | dct t ds =>
    cases t
    · obtain ⟨kvs, h1, h2⟩ := h
      exact ⟨_, h1, by intro x q; cases q⟩
    · obtain ⟨xs, kvs, h1, h2⟩ := h
      exact ⟨_, h1, by intro x q; cases q⟩
  | ins C fs => obtain ⟨dx, gs, h1, _⟩ := h; exact ⟨_, h1, by intro x q; cases q⟩
  | dead => exact h
section
variable {K : KP} {W : Wd}
theorem Ok.at (k : Ok K W) {n : Nat} {a : Addr} (h : W.β[n]? = some a) : ∃ o, W.M[n]? = some o ∧ OOk K W a o := by
  have hn : n < W.M.length := by
    rw [← k.len]
    exact (List.getElem?_eq_some_iff.mp h).1
  exact ⟨W.M[n], by simp [hn], k.ob n a _ h (by simp [hn])⟩
theorem Ok.notin (k : Ok K W) {p : Addr} (hp : W.H p = none) : ∀ n : Nat, W.β[n]? ≠ some p := fun n h => by
  obtain ⟨o, _, h2⟩ := k.at h
  obtain ⟨u, h3, _⟩ := h2.there
  rw [hp] at h3; cases h3
theorem tab_ne {H : Hp} {p a : Addr} (h : GxR.TabG H a) (hp : ∀ q, H p ≠ some (.tbl q)) : a ≠ p := by
  rintro rfl
  obtain ⟨ps, e, _⟩ := h
  exact hp ps e
theorem tab_upd {H : Hp} {p a : Addr} {o : HO} (h : GxR.TabG H a) (hne : a ≠ p) : GxR.TabG (upd H p o) a := by
  obtain ⟨ps, e, t⟩ := h
  exact ⟨ps, by rw [upd_ne hne]; exact e, t⟩
theorem tab_live {H : Hp} {p a : Addr} {u : HO} (h : GxR.TabG H a) (e : H p = some u) (hu : ∀ q, u ≠ .tbl q) : a ≠ p := tab_ne h fun q z => by rw [e] at z; exact hu q (Option.some.inj z)
theorem Ok.nopv (k : Ok K W) {p : Addr} (hp : W.H p = none) : p ∉ W.pv := fun h => by
  obtain ⟨u, e⟩ := k.ph p h
  rw [hp] at e; cases e
theorem Ok.frz_new (k : Ok K W) {p : Addr} (hp : W.H p = none) : W.frz p := ⟨fun n h => absurd h (k.notin hp n), k.nopv hp⟩
theorem rd_ne {H : Hp} {a p : Addr} {u : HO} (h : Rd H a u) (hp : H p = none) : a ≠ p := by
  rintro rfl
  rcases h with h | ⟨o, h⟩ <;> rw [hp] at h <;> cases h
theorem rd_upd {H : Hp} {a p : Addr} {u o : HO} (h : Rd H a u) (hp : a ≠ p) : Rd (upd H p o) a u := by
  rcases h with h | ⟨ob, h⟩
  · exact .inl (by rw [upd_ne hp]; exact h)
  · exact .inr ⟨ob, by rw [upd_ne hp]; exact h⟩
theorem sqt_upd {H : Hp} {a p : Addr} {xs : List V} {o : HO} (h : SqT K.K H a xs) (hp : ∀ ys, ¬ Rd H p (.tup ys)) : SqT K.K (upd H p o) a xs := by
  rcases h with h | h
  · exact .inl (rd_upd h fun e => hp xs (e ▸ h))
  · exact .inr h
/-- a new frozen object -/
def Wd.lay (W : Wd) (p : Addr) (o : HO) : Wd := { W with H := upd W.H p o }
theorem upd_z {H : Hp} {p a : Addr} {o : HO} (hp : H p = none) {ob : Obj} {u : HO} (h : H a = some (.frz ob u)) : upd H p o a = some (.frz ob u) := by
  rw [upd_ne fun e => by rw [e, hp] at h; cases h]; exact h
theorem le_lay {p : Addr} {o : HO} (k : Ok K W) (hp : W.H p = none) : Le K W (W.lay p o) := by
  have nt : ∀ ys, ¬ Rd W.H p (.tup ys) := fun ys h => (rd_ne h hp) rfl
  exact ⟨fun _ _ h => h, fun a xs h => sqt_upd h nt, fun a xs h f => ⟨rd_upd h (rd_ne h hp), f⟩, fun a xs h f => ⟨rd_upd h (rd_ne h hp), f⟩, fun a xs h f => ⟨rd_upd h (rd_ne h hp), f⟩,
    fun a ob u h => upd_z hp h, fun a h => ⟨h, upd_ne fun e => k.nopv hp (e ▸ h)⟩⟩
theorem Ok.lay (k : Ok K W) {p : Addr} {o : HO} (hp : W.H p = none) : Ok K (W.lay p o) :=
  ⟨k.len, k.nd, fun n a u h1 h2 => (k.ob n a u h1 h2).mono (le_lay k hp) (upd_ne fun e => k.notin hp n (e ▸ h1)), k.pn, fun a h => by
    obtain ⟨u, e⟩ := k.ph a h
    exact ⟨u, ((le_lay (o := o) k hp).x a h).2.trans e⟩, fun a h => ⟨tab_upd (k.tb a h).1 (tab_ne (k.tb a h).1 fun q z => by rw [hp] at z; cases z), (k.tb a h).2⟩,
    fun a h => ⟨(k.lm a h).1.mono (upd_ne (tab_ne (k.lm a h).1.tab fun q z => by rw [hp] at z; cases z)) (fun b ob u e => upd_z hp e), (k.lm a h).2⟩⟩
/-- a new changing object -/
def Wd.grow (W : Wd) (p : Addr) (ho : HO) (o : O) : Wd := { β := W.β ++ [p], M := W.M ++ [o], H := upd W.H p ho, pv := W.pv }
theorem getElem?_snoc {α : Type} (l : List α) (x : α) (n : Nat) : (l ++ [x])[n]? = if n < l.length then l[n]? else if n = l.length then some x else none := by
  by_cases h : n < l.length
  · rw [if_pos h, List.getElem?_append_left h]
  · rw [if_neg h, List.getElem?_append_right (by omega)]
    by_cases e : n = l.length
    · rw [if_pos e, e]; simp
    · rw [if_neg e, List.getElem?_eq_none (by simp; omega)]
theorem frz_grow (k : Ok K W) {p : Addr} {ho : HO} {o : O} {a : Addr} (hne : a ≠ p) (f : W.frz a) : (W.grow p ho o).frz a := by
  refine ⟨fun n h => ?_, f.2⟩
  have h : (W.β ++ [p])[n]? = some a := h
  show (W.M ++ [o])[n]? = some .dead
  rw [getElem?_snoc] at h ⊢
  rw [← k.len]
  by_cases hn : n < W.β.length
  · rw [if_pos hn] at h ⊢; exact f.1 n h
  · rw [if_neg hn] at h
    by_cases e : n = W.β.length
    · rw [if_pos e] at h; cases h; exact absurd rfl hne
    · rw [if_neg e] at h; cases h
theorem le_grow (k : Ok K W) {p : Addr} {ho : HO} {o : O} (hp : W.H p = none) : Le K W (W.grow p ho o) := by
  have nt : ∀ ys, ¬ Rd W.H p (.tup ys) := fun ys h => (rd_ne h hp) rfl
  refine ⟨fun n a h => ?_, fun a xs h => sqt_upd h nt, fun a xs h f => ⟨rd_upd h (rd_ne h hp), frz_grow k (rd_ne h hp) f⟩, fun a xs h f => ⟨rd_upd h (rd_ne h hp), frz_grow k (rd_ne h hp) f⟩, fun a xs h f => ⟨rd_upd h (rd_ne h hp), frz_grow k (rd_ne h hp) f⟩,
    fun a ob u h => upd_z hp h, fun a h => ⟨h, upd_ne fun e => k.nopv hp (e ▸ h)⟩⟩
  show (W.β ++ [p])[n]? = some a
  rw [getElem?_snoc, if_pos (List.getElem?_eq_some_iff.mp h).1]; exact h
theorem Ok.grow (k : Ok K W) {p : Addr} {ho : HO} {o : O} (hp : W.H p = none) (new : OOk K (W.grow p ho o) p o) : Ok K (W.grow p ho o) := by
  refine ⟨by show (W.β ++ [p]).length = (W.M ++ [o]).length; simp [k.len], ?_, fun n a u h1 h2 => ?_, fun a h hb => ?_, fun a h => ?_, fun a h => ?_, fun a h => ?_⟩
  · show (W.β ++ [p]).Nodup
    rw [List.nodup_append]
    refine ⟨k.nd, by simp, fun a ha b hb => ?_⟩
    simp at hb
    subst hb
    obtain ⟨n, hn⟩ := List.getElem?_of_mem ha
    exact fun e => k.notin hp n (e ▸ hn)
  · have h1 : (W.β ++ [p])[n]? = some a := h1
    have h2 : (W.M ++ [o])[n]? = some u := h2
    rw [getElem?_snoc] at h1 h2
    rw [← k.len] at h2
    by_cases hn : n < W.β.length
    · rw [if_pos hn] at h1 h2
      exact (k.ob n a u h1 h2).mono (le_grow k hp) (upd_ne fun e => k.notin hp n (e ▸ h1))
    · rw [if_neg hn] at h1 h2
      by_cases e : n = W.β.length
      · rw [if_pos e] at h1 h2; cases h1; cases h2; exact new
      · rw [if_neg e] at h1; cases h1
  · rcases List.mem_append.mp (show a ∈ W.β ++ [p] from hb) with hb | hb
    · exact k.pn a h hb
    · rw [List.mem_singleton.mp hb] at h
      exact k.nopv hp h
  · obtain ⟨u, e⟩ := k.ph a h
    exact ⟨u, ((le_grow (o := o) (ho := ho) k hp).x a h).2.trans e⟩
  · obtain ⟨t1, t2, t3⟩ := k.tb a h
    have hne : a ≠ p := tab_ne t1 fun q z => by rw [hp] at z; cases z
    exact ⟨tab_upd t1 hne, fun hb => (List.mem_append.mp hb).elim t2 fun hb => hne (List.mem_singleton.mp hb), t3⟩
  · obtain ⟨t1, t2, t3, t4⟩ := k.lm a h
    have hne : a.1 ≠ p := tab_ne t1.tab fun q z => by rw [hp] at z; cases z
    exact ⟨t1.mono (upd_ne hne) fun b ob u e => upd_z hp e, fun hb => (List.mem_append.mp hb).elim t2 fun hb => hne (List.mem_singleton.mp hb), t3, t4⟩
/-- a changing object changes -/
def Wd.put (W : Wd) (n : Nat) (a : Addr) (ho : HO) (o : O) : Wd := { β := W.β, M := W.M.set n o, H := upd W.H a ho, pv := W.pv }
theorem frz_ne (k : Ok K W) {n : Nat} {a b : Addr} {u : O} (hb : W.β[n]? = some a) (hm : W.M[n]? = some u) (hu : u ≠ .dead) (f : W.frz b) : b ≠ a := by
  rintro rfl
  have := f.1 n hb
  rw [hm] at this
  exact hu (Option.some.inj this)
theorem frz_put {n : Nat} {a b : Addr} {ho : HO} {o : O} (hb : W.β[n]? = some a) (hne : b ≠ a) (f : W.frz b) : (W.put n a ho o).frz b := by
  refine ⟨fun m h => ?_, f.2⟩
  have h : W.β[m]? = some b := h
  have hmn : n ≠ m := by
    rintro rfl
    rw [hb] at h
    exact hne (Option.some.inj h).symm
  show (W.M.set n o)[m]? = some .dead
  rw [List.getElem?_set_ne hmn]
  exact f.1 m h
def HO.live : HO → Bool
  | .lst _ => true
  | .dK _ => true
  | .dT _ => true
  | .ext _ => true
  | .ins _ _ _ => true
  | _ => false
theorem OOk.live {a : Addr} {u : O} (h : OOk K W a u) (hu : u ≠ .dead) : ∃ ho, W.H a = some ho ∧ HO.live ho = true := by
  cases u with
  | lst ds => obtain ⟨xs, h1, h2⟩ := h; exact ⟨_, h1, rfl⟩
  | dct t ds =>
    cases t
    · obtain ⟨kvs, h1, h2⟩ := h
      exact ⟨_, h1, rfl⟩
    · obtain ⟨xs, kvs, h1, h2⟩ := h
      exact ⟨_, h1, rfl⟩
  | ins C fs => obtain ⟨dx, gs, h1, _⟩ := h; exact ⟨_, h1, rfl⟩
  | dead => exact absurd rfl hu
theorem le_put (k : Ok K W) {n : Nat} {a : Addr} {ho : HO} {o u : O} (hb : W.β[n]? = some a) (hm : W.M[n]? = some u) (hu : u ≠ .dead) : Le K W (W.put n a ho o) := by
  obtain ⟨h0, e0, l0⟩ := (k.ob n a u hb hm).live hu
  have nt : ∀ ys, ¬ Rd W.H a (.tup ys) := fun ys h => by
    rcases h with h | ⟨ob, h⟩ <;> rw [e0] at h <;> cases h <;> cases l0
  refine ⟨fun _ _ h => h, fun b xs h => sqt_upd h nt, fun b xs h f => ?_, fun b xs h f => ?_, fun b xs h f => ?_, fun b ob u h => ?_, fun b h => ⟨h, upd_ne fun e => k.pn b h (e ▸ List.mem_of_getElem? hb)⟩⟩
  iterate 3 exact ⟨rd_upd h (frz_ne k hb hm hu f), frz_put hb (frz_ne k hb hm hu f) f⟩
  show upd W.H a ho b = _
  rw [upd_ne fun e => by
    rw [e, e0] at h
    cases h
    cases l0]
  exact h
theorem Ok.put (k : Ok K W) {n : Nat} {a : Addr} {ho : HO} {o u : O} (hb : W.β[n]? = some a) (hm : W.M[n]? = some u) (hu : u ≠ .dead) (new : OOk K (W.put n a ho o) a o) : Ok K (W.put n a ho o) := by
  refine ⟨by show W.β.length = (W.M.set n o).length; simp [k.len], k.nd, fun m b v h1 h2 => ?_, k.pn, fun b h => by
    obtain ⟨u, e⟩ := k.ph b h
    exact ⟨u, ((le_put (o := o) (ho := ho) k hb hm hu).x b h).2.trans e⟩, fun b h => ⟨tab_upd (k.tb b h).1 fun e => (k.tb b h).2.1 (e ▸ List.mem_of_getElem? hb), (k.tb b h).2⟩,
    fun b h => ⟨(k.lm b h).1.mono (upd_ne fun e => (k.lm b h).2.1 (e ▸ List.mem_of_getElem? hb)) (le_put (o := o) (ho := ho) k hb hm hu).z, (k.lm b h).2⟩⟩
  have h1 : W.β[m]? = some b := h1
  have h2 : (W.M.set n o)[m]? = some v := h2
  by_cases e : n = m
  · subst e
    rw [hb] at h1; cases h1
    have hl : n < W.M.length := (List.getElem?_eq_some_iff.mp hm).1
    rw [List.getElem?_set_self hl] at h2; cases h2
    exact new
  · rw [List.getElem?_set_ne e] at h2
    have hne : b ≠ a := fun q => by
      subst q
      exact e ((List.getElem?_inj (List.getElem?_eq_some_iff.mp hb).1 k.nd).mp (hb.trans h1.symm))
    exact (k.ob m b v h1 h2).mono (le_put k hb hm hu) (upd_ne hne)
end
end DL
namespace DL
open PySem PySem.Spec PyProof.Rows L2

abbrev Rs (α : Type) := Option (Except Str α × Mem)
abbrev Mo (α : Type) := Mem → Rs α
namespace Mo
variable {α β γ : Type}
def ret (a : α) : Mo α := fun M => some (.ok a, M)
def bnd (m : Mo α) (f : α → Mo β) : Mo β := fun M => match m M with
  | none => none
  | some (.ok a, M1) => f a M1
  | some (.error x, M1) => some (.error x, M1)
def stuck : Mo α := fun _ => none
def fail (x : Str) : Mo α := fun M => some (.error x, M)
def opt (o : Option α) : Mo α := match o with
  | some a => ret a
  | none => stuck
theorem ret_bnd (a : α) (f : α → Mo β) : bnd (ret a) f = f a := rfl
theorem bnd_ret (m : Mo α) : bnd m ret = m := by
  funext M
  unfold bnd ret
  cases h : m M with
  | none => rfl
  | some p => obtain ⟨r, M1⟩ := p; cases r <;> rfl
theorem bnd_assoc (m : Mo α) (f : α → Mo β) (g : β → Mo γ) : bnd (bnd m f) g = bnd m fun a => bnd (f a) g := by
  funext M
  unfold bnd
  cases h : m M with
  | none => rfl
  | some p => obtain ⟨r, M1⟩ := p; cases r <;> rfl
theorem fail_bnd (x : Str) (f : α → Mo β) : bnd (fail x) f = fail x := rfl
theorem stuck_bnd (f : α → Mo β) : bnd (stuck : Mo α) f = stuck := rfl
end Mo
theorem Mo.opt_some {α : Type} (a : α) : Mo.opt (some a) = Mo.ret a := rfl
theorem Mo.opt_none {α : Type} : Mo.opt (none : Option α) = Mo.stuck := rfl
theorem Mo.app_ret {α : Type} (a : α) (M : Mem) : Mo.ret a M = some (.ok a, M) := rfl

abbrev En := List (Option D)
def getV (ρ : En) (i : Nat) : Mo D := match ρ[i]? with
  | some (some d) => .ret d
  | _ => .stuck

/-- what is fixed while a def's body runs -/
structure SC where
  P : Program
  w : World
  F : PySem.W.Frag
  mg : Str → Option Value
  base : Heap
  N : List Str
  sc : Scope
  k : Nat
  W : WX
  df : Bool
  fnc : Str → Bool
  cs : List (Addr × Addr)
  code : Option Value
  ls : List (Addr × Str)
  ql : Option Str
abbrev SC.K (S : SC) : KP := ⟨S.P, S.w, S.F, S.cs.map (·.2), S.ls⟩
/-- a context of that kind -/
structure InC (S : SC) (X : Cx) : Prop where
  P : X.prog = S.P
  w : X.w = S.w
  K : X.K = S.F
  mg : X.mg = S.mg
  base : X.base = S.base
  N : X.N = S.N
  sc : X.env.scope = S.sc
  calm : X.calm = true
  room : Room S.k X.A
  takes : L2N.Takes X S.W
  own : S.df = true → PassesOwn (model X.prog X.w) X.A X.env X.xe
  stk : S.df = true → X.stack = X.env :: X.outer ∧ X.env.frame = some X.env.locals
  fn : ∀ x, S.fnc x = true → X.fn x = true
  code : ∀ v, S.code = some v → X.env.code = v
  ql : ∀ q, S.ql = some q → X.env.qual = q

def StR (K : KP) (W : Wd) (σ : L2.St) (ρ : En) : Prop := σ.length = ρ.length ∧ ∀ (i : Nat) (d : D), ρ[i]? = some (some d) → ∃ v, σ[i]? = some (some v) ∧ Rp K W v d
theorem StR.mono {K : KP} {W W' : Wd} {σ : L2.St} {ρ : En} (e : Le K W W') (h : StR K W σ ρ) : StR K W' σ ρ :=
  ⟨h.1, fun i d q => let ⟨v, h1, h2⟩ := h.2 i d q; ⟨v, h1, h2.mono e⟩⟩
theorem StR.set {K : KP} {W : Wd} {σ : L2.St} {ρ : En} (h : StR K W σ ρ) {v : V} {d : D} (r : Rp K W v d) (i : Nat) : StR K W (σ.set i (some v)) (ρ.set i (some d)) := by
  refine ⟨by simp [h.1], fun j e q => ?_⟩
  by_cases hij : i = j
  · subst hij
    have hl : i < ρ.length := by
      rcases Nat.lt_or_ge i ρ.length with hl | hl
      · exact hl
      · rw [List.getElem?_eq_none (by simpa using hl)] at q; cases q
    rw [List.getElem?_set_self hl] at q
    cases q
    exact ⟨v, List.getElem?_set_self (by rw [h.1]; exact hl), r⟩
  · rw [List.getElem?_set_ne hij] at q ⊢
    exact h.2 j e q
theorem StR.del {K : KP} {W : Wd} {σ : L2.St} {ρ : En} (h : StR K W σ ρ) (i : Nat) : StR K W (σ.set i none) (ρ.set i none) := by
  refine ⟨by simp [h.1], fun j e q => ?_⟩
  by_cases hij : i = j
  · subst hij
    rcases Nat.lt_or_ge i ρ.length with hl | hl
    · rw [List.getElem?_set_self hl] at q; cases q
    · rw [List.getElem?_eq_none (by simpa using hl)] at q; cases q
  · rw [List.getElem?_set_ne hij] at q ⊢
    exact h.2 j e q

/-- what must hold behind a result -/
def Post {α : Type} (S : SC) (W : Wd) (σ : L2.St) (r : Rs α) (Q : α → Wd → Prop) : Prop := match r with
  | none => False
  | some (.ok a, M') => ∀ W', Le S.K W W' → Ok S.K W' → W'.M = M' → Q a W'
  | some (.error x, M') => ∀ W', Le S.K W W' → Ok S.K W' → W'.M = M' → ∀ C, S.mg x = some (.ref C) → S.W (.ref C) none σ W'.H
section
variable {S : SC} {W W' : Wd} {σ : L2.St} {ρ : En} {α β : Type}
theorem Post.mono {r : Rs α} {Q : α → Wd → Prop} (e : Le S.K W W') (h : Post S W σ r Q) : Post S W' σ r Q := by
  cases r with
  | none => exact h
  | some p =>
    obtain ⟨r, M'⟩ := p
    cases r with
    | ok a => exact fun W2 l k m => h W2 (e.trans l) k m
    | error x => exact fun W2 l k m => h W2 (e.trans l) k m
theorem Post.imp {r : Rs α} {Q Q' : α → Wd → Prop} (h : Post S W σ r Q) (i : ∀ a W', Le S.K W W' → Ok S.K W' → Q a W' → Q' a W') : Post S W σ r Q' := by
  cases r with
  | none => exact h
  | some p =>
    obtain ⟨r, M'⟩ := p
    cases r with
    | ok a => exact fun W2 l k m => i a W2 l k (h W2 l k m)
    | error x => exact h
theorem Post.bnd {m : Mo α} {f : α → Mo β} {Q : β → Wd → Prop} (h : Post S W σ (Mo.bnd m f W.M) Q) : Post S W σ (m W.M) (fun a W1 => Post S W1 σ (f a W1.M) Q) := by
  unfold Mo.bnd at h
  cases e : m W.M with
  | none => rw [e] at h; exact h
  | some p =>
    rw [e] at h
    obtain ⟨r, M1⟩ := p
    cases r with
    | error x => exact h
    | ok a =>
      intro W1 l k hm
      subst hm
      exact Post.mono l h
theorem Post.ret {a : α} {Q : α → Wd → Prop} (k : Ok S.K W) (h : Post S W σ (Mo.ret a W.M) Q) : Q a W := h W (Le.refl _ _) k rfl
theorem Post.stuck {Q : α → Wd → Prop} (h : Post S W σ ((Mo.stuck : Mo α) W.M) Q) : False := h
/-- a value is wanted -/
def PV (S : SC) (Q : VK) : D → Wd → Prop := fun d W' => ∀ v, Rp S.K W' v d → Q v W'.H
def SemE (S : SC) (t : TE) (f : En → Mo D) : Prop := ∀ (W : Wd) (σ : L2.St) (ρ : En) (Q : VK), Ok S.K W → StR S.K W σ ρ → Post S W σ (f ρ W.M) (PV S Q) → t σ W.H Q
def SemT (S : SC) (t : TT) (f : En → Mo Bool) : Prop := ∀ (W : Wd) (σ : L2.St) (ρ : En) (Q : Bool → Hp → Prop), Ok S.K W → StR S.K W σ ρ → Post S W σ (f ρ W.M) (fun b W' => Q b W'.H) → t σ W.H Q
def PVA (S : SC) (Q : List V → Hp → Prop) : List D → Wd → Prop := fun ds W' => ∀ vs, RpA S.K W' vs ds → Q vs W'.H
def SemA (S : SC) (t : TA) (f : En → Mo (List D)) : Prop := ∀ (W : Wd) (σ : L2.St) (ρ : En) (Q : List V → Hp → Prop), Ok S.K W → StR S.K W σ ρ → Post S W σ (f ρ W.M) (PVA S Q) → t σ W.H Q
structure EX (S : SC) (e : Expr) (f : En → Mo D) : Prop where
  ex : ∃ t : TE, (∀ X, InC S X → PE X e t) ∧ SemE S t f
structure TX (S : SC) (e : Expr) (f : En → Mo Bool) : Prop where
  ex : ∃ t : TT, (∀ X, InC S X → PT X e t) ∧ SemT S t f
structure AX (S : SC) (es : List Expr) (f : En → Mo (List D)) : Prop where
  ex : ∃ t : TA, (∀ X, InC S X → PA X es t) ∧ SemA S t f
theorem EX.to {e : Expr} {f g : En → Mo D} (h : EX S e f) (q : f = g) : EX S e g := q ▸ h
theorem TX.to {e : Expr} {f g : En → Mo Bool} (h : TX S e f) (q : f = g) : TX S e g := q ▸ h

theorem getV_some {ρ : En} {i : Nat} {d : D} (h : ρ[i]? = some (some d)) : getV ρ i = .ret d := by unfold getV; rw [h]
theorem getV_none {ρ : En} {i : Nat} (h : ∀ d, ρ[i]? ≠ some (some d)) : getV ρ i = .stuck := by
  unfold getV
  split
  · rename_i d e; exact absurd e (h d)
  · rfl
theorem sem_var (i : Nat) : SemE S (tVar i) (fun ρ => getV ρ i) := by
  intro W σ ρ Q k st h
  have h : Post S W σ (getV ρ i W.M) (PV S Q) := h
  by_cases e : ∃ d, ρ[i]? = some (some d)
  · obtain ⟨d, e⟩ := e
    rw [getV_some e] at h
    obtain ⟨v, h1, h2⟩ := st.2 i d e
    exact ⟨v, h1, Post.ret k h v h2⟩
  · rw [getV_none fun d q => e ⟨d, q⟩] at h
    exact h.elim
theorem ex_var (i : Nat) {x : Str} {pos : Pos} (hN : S.N[i]? = some x := by rfl) (hv : Vis S.sc x := by first | exact Or.inl rfl | exact Or.inr (Or.inl rfl) | exact Or.inr (Or.inr rfl)) (hd : (x == ("__debug__" : Str)) = false := by decide)
    (hcd : (x == ("__classdict__" : Str)) = false := by decide) : EX S (.Name x pos) (fun ρ => getV ρ i) :=
  ⟨tVar i, fun X c => pe_var (by rw [c.N]; exact hN) (by rw [c.sc]; exact hv) hd hcd, sem_var i⟩
theorem sem_c {v : V} {d : D} (hd : ∀ W, Rp S.K W v d) : SemE S (tC v) (fun _ => .ret d) := fun W σ ρ Q k st h => Post.ret k h v (hd W)
theorem ex_int {i : Int} {j : Nat} {pos : Pos} : EX S (.Constant (.int i) j pos) (fun _ => .ret (.int i)) := ⟨_, fun X c => pe_int, sem_c fun _ => .int i⟩
theorem ex_bl {b : Bool} {j : Nat} {pos : Pos} : EX S (.Constant (.bool b) j pos) (fun _ => .ret (.bl b)) := ⟨_, fun X c => pe_bl, sem_c fun _ => .bl b⟩
theorem ex_non {j : Nat} {pos : Pos} : EX S (.Constant .none j pos) (fun _ => .ret .non) := ⟨_, fun X c => pe_non, sem_c fun _ => .non⟩
theorem ex_str {x : Str} {j : Nat} {pos : Pos} : EX S (.Constant (.str x) j pos) (fun _ => .ret (.str x)) := ⟨_, fun X c => pe_str, sem_c fun _ => .str x⟩
/-- a global name of the scope -/
def Gs (S : SC) (x : Str) : Prop := S.sc.names.lookup x = some .globalImplicit
theorem gl_of {X : Cx} {x : Str} (c : InC S X) (h : Gs S x) : Gl X x := by
  show X.env.scope.names.lookup x = _
  rw [c.sc]; exact h
theorem ex_glob {x : Str} {v : V} {u : Value} {d : D} {pos : Pos} (hg : Gs S x) (hm : S.mg x = some u) (r : RelV v u) (hd : ∀ W, Rp S.K W v d) (hdb : (x == ("__debug__" : Str)) = false := by decide) : EX S (.Name x pos) (fun _ => .ret d) :=
  ⟨_, fun X c => pe_glob (gl_of c hg) (by rw [c.mg]; exact hm) r hdb, sem_c hd⟩

structure OX (S : SC) (f : Value → Value → Sem Value) (g : D → D → Mo D) : Prop where
  ex : ∃ r : R2, (∀ X, InC S X → OpR X f r) ∧ ∀ (W : Wd) (σ : L2.St) (x y : V) (a b : D) (Q : VK), Ok S.K W → Rp S.K W x a → Rp S.K W y b → Post S W σ (g a b W.M) (PV S Q) → r x y W.H Q
structure UX (S : SC) (f : Value → Sem Value) (g : D → Mo D) : Prop where
  ex : ∃ r : V → Hp → VK → Prop, (∀ X, InC S X → UnR X f r) ∧ ∀ (W : Wd) (σ : L2.St) (x : V) (a : D) (Q : VK), Ok S.K W → Rp S.K W x a → Post S W σ (g a W.M) (PV S Q) → r x W.H Q
structure CXx (S : SC) (f : Value) (g : List D → Mo D) : Prop where
  ex : ∃ r : List V → Hp → VK → Prop, (∀ X, InC S X → CallR X f r) ∧ ∀ (W : Wd) (σ : L2.St) (xs : List V) (as : List D) (Q : VK), Ok S.K W → RpA S.K W xs as → Post S W σ (g as W.M) (PV S Q) → r xs W.H Q
theorem sem_op {r : R2} {g : D → D → Mo D} {ta tb : TE} {fa fb : En → Mo D} (ha : SemE S ta fa) (hb : SemE S tb fb)
    (hr : ∀ (W : Wd) (σ : L2.St) (x y : V) (a b : D) (Q : VK), Ok S.K W → Rp S.K W x a → Rp S.K W y b → Post S W σ (g a b W.M) (PV S Q) → r x y W.H Q) :
    SemE S (tOp r ta tb) (fun ρ => .bnd (fa ρ) fun a => .bnd (fb ρ) fun b => g a b) := by
  intro W σ ρ Q k st h
  refine ha W σ ρ _ k st (Post.imp (Post.bnd h) fun a W1 l1 k1 h1 v rv => ?_)
  refine hb W1 σ ρ _ k1 (st.mono l1) (Post.imp (Post.bnd h1) fun b W2 l2 k2 h2 u ru => ?_)
  exact hr W2 σ v u a b Q k2 (rv.mono l2) ru h2
theorem ex_op {op : Operator} {g : D → D → Mo D} {a b : Expr} {fa fb : En → Mo D} {pos : Pos} (ho : OX S (binaryOp op) g) (ha : EX S a fa) (hb : EX S b fb) :
    EX S (.BinOp a op b pos) (fun ρ => .bnd (fa ρ) fun a => .bnd (fb ρ) fun b => g a b) := by
  obtain ⟨r, h1, h2⟩ := ho.ex
  obtain ⟨ta, a1, a2⟩ := ha.ex
  obtain ⟨tb, b1, b2⟩ := hb.ex
  exact ⟨tOp r ta tb, fun X c => pe_op (h1 X c) (a1 X c) (b1 X c), sem_op a2 b2 h2⟩
theorem ex_un {op : UnaryOp} {g : D → Mo D} {a : Expr} {fa : En → Mo D} {pos : Pos} (ho : UX S (unaryOp op) g) (ha : EX S a fa) : EX S (.UnaryOp op a pos) (fun ρ => .bnd (fa ρ) fun a => g a) := by
  obtain ⟨r, h1, h2⟩ := ho.ex
  obtain ⟨ta, a1, a2⟩ := ha.ex
  refine ⟨tUn r ta, fun X c => pe_un (h1 X c) (a1 X c), fun W σ ρ Q k st h => ?_⟩
  exact a2 W σ ρ _ k st (Post.imp (Post.bnd h) fun a W1 l1 k1 q v rv => h2 W1 σ v a Q k1 rv q)
/-- a mark of a comparison's right side (In, NotIn of written sets) -/
theorem ex_cmp {op : CmpOp} {g : D → D → Mo D} {a b : Expr} {fa fb : En → Mo D} {pos : Pos} (ho : OX S (compareOp op) g) (ha : EX S a fa) (hb : EX S b fb) (hm : behindInMarks op b = false := by first | exact nobehind _ (by decide) (by decide) | rfl) :
    EX S (.Compare a [op] [b] pos) (fun ρ => .bnd (fa ρ) fun a => .bnd (fb ρ) fun b => g a b) := by
  obtain ⟨r, h1, h2⟩ := ho.ex
  obtain ⟨ta, a1, a2⟩ := ha.ex
  obtain ⟨tb, b1, b2⟩ := hb.ex
  exact ⟨tOp r ta tb, fun X c => pe_cmpR (h1 X c) (a1 X c) (b1 X c) hm, sem_op a2 b2 h2⟩
/-- the bool that a value is -/
def boolD : D → Mo Bool
  | .bl b => .ret b
  | _ => .stuck
theorem rp_bl {K : KP} {v : V} {b : Bool} (h : Rp K W v (.bl b)) : v = .bl b := by cases h; rfl
theorem rp_int {K : KP} {v : V} {b : Int} (h : Rp K W v (.int b)) : v = .int b := by cases h; rfl
theorem rp_str {K : KP} {v : V} {b : Str} (h : Rp K W v (.str b)) : v = .str b := by cases h; rfl
theorem rp_non {K : KP} {v : V} (h : Rp K W v .non) : v = .non := by cases h; rfl
theorem sem_test {ta : TE} {fa : En → Mo D} (ha : SemE S ta fa) : SemT S (tTest ta) (fun ρ => .bnd (fa ρ) boolD) := by
  intro W σ ρ Q k st h
  refine ha W σ ρ _ k st (Post.imp (Post.bnd h) fun a W1 l1 k1 h1 v rv => ?_)
  cases a with
  | bl b => rw [rp_bl rv]; exact ⟨b, rfl, Post.ret k1 h1⟩
  | _ => exact h1.elim
theorem tx_cmp {op : CmpOp} {g : D → D → Mo D} {a b : Expr} {fa fb : En → Mo D} {pos : Pos} (ho : OX S (compareOp op) g) (ha : EX S a fa) (hb : EX S b fb) (hm : behindInMarks op b = false := by first | exact nobehind _ (by decide) (by decide) | rfl) :
    TX S (.Compare a [op] [b] pos) (fun ρ => .bnd (.bnd (fa ρ) fun a => .bnd (fb ρ) fun b => g a b) boolD) := by
  obtain ⟨r, h1, h2⟩ := ho.ex
  obtain ⟨ta, a1, a2⟩ := ha.ex
  obtain ⟨tb, b1, b2⟩ := hb.ex
  exact ⟨tTest (tOp r ta tb), fun X c => pt_cmpR (h1 X c) (a1 X c) (b1 X c) hm, sem_test (sem_op a2 b2 h2)⟩
theorem sem_chain {r r' : R2} {g g' : D → D → Mo D} {ta tb tc : TE} {fa fb fc : En → Mo D} (ha : SemE S ta fa) (hb : SemE S tb fb) (hc : SemE S tc fc)
    (hr : ∀ (W : Wd) (σ : L2.St) (x y : V) (a b : D) (Q : VK), Ok S.K W → Rp S.K W x a → Rp S.K W y b → Post S W σ (g a b W.M) (PV S Q) → r x y W.H Q)
    (hr' : ∀ (W : Wd) (σ : L2.St) (x y : V) (a b : D) (Q : VK), Ok S.K W → Rp S.K W x a → Rp S.K W y b → Post S W σ (g' a b W.M) (PV S Q) → r' x y W.H Q) :
    SemE S (tChain r r' ta tb tc) (fun ρ => .bnd (fa ρ) fun a => .bnd (fb ρ) fun b => .bnd (.bnd (g a b) boolD) fun z => cond z (.bnd (fc ρ) fun c => g' b c) (.ret (.bl false))) := by
  intro W σ ρ Q k st h
  refine ha W σ ρ _ k st (Post.imp (Post.bnd h) fun a W1 l1 k1 h1 v rv => ?_)
  refine hb W1 σ ρ _ k1 (st.mono l1) (Post.imp (Post.bnd h1) fun b W2 l2 k2 h2 u ru => ?_)
  refine hr W2 σ v u a b _ k2 (rv.mono l2) ru (Post.imp (Post.bnd (Post.bnd h2)) fun z W3 l3 k3 h3 x rx => ?_)
  cases z with
  | bl z =>
    rw [rp_bl rx]
    refine ⟨z, rfl, ?_⟩
    have h3 : Post S W3 σ ((cond z (Mo.bnd (fc ρ) fun c => g' b c) (Mo.ret (D.bl false))) W3.M) (PV S Q) := Post.ret k3 h3
    cases z with
    | false => exact Post.ret k3 h3 _ (Rp.bl false)
    | true =>
      rw [if_pos rfl]
      refine hc W3 σ ρ _ k3 (((st.mono l1).mono l2).mono l3) (Post.imp (Post.bnd h3) fun c W4 l4 k4 h4 y ry => ?_)
      exact hr' W4 σ u y b c Q k4 ((ru.mono l3).mono l4) ry h4
  | _ => exact (show False from h3).elim
theorem ex_chain {op op' : CmpOp} {g g' : D → D → Mo D} {a b c : Expr} {fa fb fc : En → Mo D} {pos : Pos} (ho : OX S (compareOp op) g) (ho' : OX S (compareOp op') g') (ha : EX S a fa) (hb : EX S b fb) (hc : EX S c fc) (hm : lastMarks [op, op'] [b, c] = false := by rfl) :
    EX S (.Compare a [op, op'] [b, c] pos) (fun ρ => .bnd (fa ρ) fun a => .bnd (fb ρ) fun b => .bnd (.bnd (g a b) boolD) fun z => cond z (.bnd (fc ρ) fun c => g' b c) (.ret (.bl false))) := by
  obtain ⟨r, h1, h2⟩ := ho.ex
  obtain ⟨r', h1', h2'⟩ := ho'.ex
  obtain ⟨ta, a1, a2⟩ := ha.ex
  obtain ⟨tb, b1, b2⟩ := hb.ex
  obtain ⟨tc, c1, c2⟩ := hc.ex
  exact ⟨tChain r r' ta tb tc, fun X c => pe_chain (h1 X c) (h1' X c) (a1 X c) (b1 X c) (c1 X c) hm, sem_chain a2 b2 c2 h2 h2'⟩

def truthD (M : Mem) : D → Option Bool
  | .non => some false
  | .bl b => some b
  | .int i => some (i != 0)
  | .str y => if y.length ≤ sizeLine then some ((y.length : Int) != 0) else none
  | .tup l => some (!l.isEmpty)
  | .lst l => some (!l.isEmpty)
  | .tpn l => some (!l.isEmpty)
  | .ref n => match M[n]? with
    | some (.lst l) => some (!l.isEmpty)
    | _ => none
  | _ => none
theorem rpa_empty {K : KP} {xs : List V} {ds : List D} (h : RpA K W xs ds) : xs.isEmpty = ds.isEmpty := by cases h <;> rfl
theorem truth_ok {K : KP} {v : V} {d : D} {b : Bool} (k : Ok K W) (r : Rp K W v d) (h : truthD W.M d = some b) : TruV K.K v W.H b := by
  cases r with
  | non => cases h; rfl
  | bl c => cases h; rfl
  | int i => cases h; rfl
  | str y =>
    have h : (if y.length ≤ sizeLine then some ((y.length : Int) != 0) else none) = some b := h
    split at h
    · cases h; exact ⟨by assumption, rfl⟩
    · cases h
  | tup h1 h2 => cases h; exact .inr (.inl ⟨_, h1, by rw [rpa_empty h2]⟩)
  | lst h1 f h2 => cases h; exact .inl ⟨_, .inl h1, by rw [rpa_empty h2]⟩
  | lstK h1 h2 => cases h; exact .inl ⟨_, .inr h1, by rw [rpa_empty h2]⟩
  | dK _ _ _ => cases h
  | dT _ _ _ _ => cases h
  | obj a => cases h
  | ty n => cases h
  | set _ => cases h
  | seti _ => cases h
  | tpn h1 n1 h2 => cases h; exact .inr (.inl ⟨_, .inl (.inr ⟨_, h1⟩), by rw [rpa_empty h2]⟩)
  | @ref n a hb =>
    obtain ⟨o, hm, ho⟩ := k.at hb
    simp only [truthD, hm] at h
    cases o with
    | lst l =>
      cases h
      obtain ⟨xs, h1, h2⟩ := ho
      exact .inl ⟨xs, .inl (.inl h1), by rw [rpa_empty h2]⟩
    | _ => cases h
def truD (d : D) : Mo Bool := fun M => Mo.opt (truthD M d) M
theorem tx_truth {a : Expr} {fa : En → Mo D} (ha : EX S a fa) (he : ∀ (env : PySem.Env) whole, isTrue a env whole = (do let v ← whole; standAt a.pos; holding [v] (truthy v)) := by intros; rfl) : TX S a (fun ρ => .bnd (fa ρ) truD) := by
  obtain ⟨ta, a1, a2⟩ := ha.ex
  refine ⟨fun σ H Q => ta σ H fun x H' => ∃ k, TruV S.F x H' k ∧ Q k H', fun X c => by have z := pt_truth (a1 X c) (he X.env); rw [c.K] at z; exact z, fun W σ ρ Q k st h => ?_⟩
  refine a2 W σ ρ _ k st (Post.imp (Post.bnd h) fun a W1 l1 k1 h1 v rv => ?_)
  unfold truD at h1
  cases e : truthD W1.M a with
  | none => rw [e] at h1; exact h1.elim
  | some b => rw [e] at h1; exact ⟨b, truth_ok k1 rv e, Post.ret k1 h1⟩
theorem tx_bool {a : Expr} {fa : En → Mo D} (ha : EX S a fa) (he : ∀ (env : PySem.Env) whole, isTrue a env whole = (do let v ← whole; standAt a.pos; holding [v] (truthy v)) := by intros; rfl) : TX S a (fun ρ => .bnd (fa ρ) boolD) := by
  obtain ⟨ta, a1, a2⟩ := ha.ex
  refine ⟨tB ta, fun X c => pt_val (a1 X c) (he X.env), fun W σ ρ Q k st h => sem_test a2 W σ ρ Q k st h⟩
theorem tx_not {a : Expr} {fa : En → Mo Bool} {pos : Pos} (ha : TX S a fa) : TX S (.UnaryOp .Not a pos) (fun ρ => .bnd (fa ρ) fun b => .ret (!b)) := by
  obtain ⟨ta, a1, a2⟩ := ha.ex
  exact ⟨tNot ta, fun X c => pt_not (a1 X c), fun W σ ρ Q k st h => a2 W σ ρ _ k st (Post.imp (Post.bnd h) fun b W1 l1 k1 h1 => Post.ret k1 h1)⟩
structure WXx (S : SC) (e : Expr) (f : En → Mo Bool) : Prop where
  ex : ∃ t : TT, (∀ X, InC S X → PW X e t) ∧ SemT S t f
theorem tx_w {a : Expr} {fa : En → Mo Bool} (h : WXx S a fa) : TX S a fa := let ⟨t, h1, h2⟩ := h.ex; ⟨t, fun X c => (h1 X c).pt, h2⟩
theorem wx_and1 {a : Expr} {fa : En → Mo Bool} {pos : Pos} (h : TX S a fa) : WXx S (.BoolOp .And [a] pos) fa := let ⟨t, h1, h2⟩ := h.ex; ⟨t, fun X c => pw_and1 (h1 X c), h2⟩
theorem wx_or1 {a : Expr} {fa : En → Mo Bool} {pos : Pos} (h : TX S a fa) : WXx S (.BoolOp .Or [a] pos) fa := let ⟨t, h1, h2⟩ := h.ex; ⟨t, fun X c => pw_or1 (h1 X c), h2⟩
theorem wx_and {a b : Expr} {rest : List Expr} {fa fb : En → Mo Bool} {pos : Pos} (ha : TX S a fa) (hb : WXx S (.BoolOp .And (b :: rest) pos) fb) : WXx S (.BoolOp .And (a :: b :: rest) pos) (fun ρ => .bnd (fa ρ) fun z => cond z (fb ρ) (.ret false)) := by
  obtain ⟨ta, a1, a2⟩ := ha.ex
  obtain ⟨tb, b1, b2⟩ := hb.ex
  refine ⟨tAnd ta tb, fun X c => pw_and (a1 X c) (b1 X c), fun W σ ρ Q k st h => a2 W σ ρ _ k st (Post.imp (Post.bnd h) fun b W1 l1 k1 h1 => ?_)⟩
  cases b with
  | true => rw [if_pos rfl]; exact b2 W1 σ ρ Q k1 (st.mono l1) h1
  | false => exact Post.ret k1 h1
theorem wx_or {a b : Expr} {rest : List Expr} {fa fb : En → Mo Bool} {pos : Pos} (ha : TX S a fa) (hb : WXx S (.BoolOp .Or (b :: rest) pos) fb) : WXx S (.BoolOp .Or (a :: b :: rest) pos) (fun ρ => .bnd (fa ρ) fun z => cond z (.ret true) (fb ρ)) := by
  obtain ⟨ta, a1, a2⟩ := ha.ex
  obtain ⟨tb, b1, b2⟩ := hb.ex
  refine ⟨tOr ta tb, fun X c => pw_or (a1 X c) (b1 X c), fun W σ ρ Q k st h => a2 W σ ρ _ k st (Post.imp (Post.bnd h) fun b W1 l1 k1 h1 => ?_)⟩
  cases b with
  | false => exact b2 W1 σ ρ Q k1 (st.mono l1) h1
  | true => rw [if_pos rfl]; exact Post.ret k1 h1
/-- and, or, not as values (of bools) -/
theorem ex_one {op : BoolOp} {a : Expr} {fa : En → Mo D} {pos : Pos} (h : EX S a fa) : EX S (.BoolOp op [a] pos) fa := let ⟨t, h1, h2⟩ := h.ex; ⟨t, fun X c => pe_one (h1 X c), h2⟩
theorem ex_and {a b : Expr} {rest : List Expr} {fa fb : En → Mo D} {pos : Pos} (ha : EX S a fa) (hb : EX S (.BoolOp .And (b :: rest) pos) fb) : EX S (.BoolOp .And (a :: b :: rest) pos) (fun ρ => .bnd (.bnd (fa ρ) boolD) fun z => cond z (fb ρ) (.ret (.bl false))) := by
  obtain ⟨ta, a1, a2⟩ := ha.ex
  obtain ⟨tb, b1, b2⟩ := hb.ex
  refine ⟨tAndV ta tb, fun X c => pe_and (a1 X c) (b1 X c), fun W σ ρ Q k st h => ?_⟩
  refine a2 W σ ρ _ k st (Post.imp (Post.bnd (Post.bnd h)) fun z W1 l1 k1 h1 v rv => ?_)
  cases z with
  | bl z =>
    rw [rp_bl rv]
    have h1 := Post.ret k1 h1
    refine ⟨z, rfl, ?_⟩
    cases z with
    | true => rw [if_pos rfl]; exact b2 W1 σ ρ Q k1 (st.mono l1) h1
    | false => exact Post.ret k1 h1 _ (.bl false)
  | _ => exact (show False from h1).elim
theorem ex_or {a b : Expr} {rest : List Expr} {fa fb : En → Mo D} {pos : Pos} (ha : EX S a fa) (hb : EX S (.BoolOp .Or (b :: rest) pos) fb) : EX S (.BoolOp .Or (a :: b :: rest) pos) (fun ρ => .bnd (.bnd (fa ρ) boolD) fun z => cond z (.ret (.bl true)) (fb ρ)) := by
  obtain ⟨ta, a1, a2⟩ := ha.ex
  obtain ⟨tb, b1, b2⟩ := hb.ex
  refine ⟨tOrV ta tb, fun X c => pe_or (a1 X c) (b1 X c), fun W σ ρ Q k st h => ?_⟩
  refine a2 W σ ρ _ k st (Post.imp (Post.bnd (Post.bnd h)) fun z W1 l1 k1 h1 v rv => ?_)
  cases z with
  | bl z =>
    rw [rp_bl rv]
    have h1 := Post.ret k1 h1
    refine ⟨z, rfl, ?_⟩
    cases z with
    | false => exact b2 W1 σ ρ Q k1 (st.mono l1) h1
    | true => rw [if_pos rfl]; exact Post.ret k1 h1 _ (.bl true)
  | _ => exact (show False from h1).elim
theorem ex_not {a : Expr} {fa : En → Mo D} {pos : Pos} (ha : EX S a fa) : EX S (.UnaryOp .Not a pos) (fun ρ => .bnd (.bnd (fa ρ) boolD) fun z => .ret (.bl (!z))) := by
  obtain ⟨ta, a1, a2⟩ := ha.ex
  refine ⟨tNotV ta, fun X c => pe_not (a1 X c), fun W σ ρ Q k st h => ?_⟩
  refine a2 W σ ρ _ k st (Post.imp (Post.bnd (Post.bnd h)) fun z W1 l1 k1 h1 v rv => ?_)
  cases z with
  | bl z => rw [rp_bl rv]; exact ⟨z, rfl, Post.ret k1 (Post.ret k1 h1) _ (.bl _)⟩
  | _ => exact (show False from h1).elim
theorem ex_if {c a b : Expr} {fc : En → Mo Bool} {fa fb : En → Mo D} {pos : Pos} (hc : TX S c fc) (ha : EX S a fa) (hb : EX S b fb) : EX S (.IfExp c a b pos) (fun ρ => .bnd (fc ρ) fun z => cond z (fa ρ) (fb ρ)) := by
  obtain ⟨tc, c1, c2⟩ := hc.ex
  obtain ⟨ta, a1, a2⟩ := ha.ex
  obtain ⟨tb, b1, b2⟩ := hb.ex
  refine ⟨tIf tc ta tb, fun X c => pe_ifExp (c1 X c) (a1 X c) (b1 X c), fun W σ ρ Q k st h => c2 W σ ρ _ k st (Post.imp (Post.bnd h) fun z W1 l1 k1 h1 => ?_)⟩
  cases z with
  | true => rw [if_pos rfl]; exact a2 W1 σ ρ Q k1 (st.mono l1) h1
  | false => exact b2 W1 σ ρ Q k1 (st.mono l1) h1

theorem ax_nil : AX S [] (fun _ => .ret []) := ⟨tNil, fun X c => pa_nil, fun W σ ρ Q k st h => Post.ret k h [] .nil⟩
theorem ax_cons {e : Expr} {es : List Expr} {f : En → Mo D} {g : En → Mo (List D)} (h : EX S e f) (hr : AX S es g) (hs : ∀ env : PySem.Env, starEach (e :: es) env = (false, eval e env) :: starEach es env := by intro; rfl) :
    AX S (e :: es) (fun ρ => .bnd (f ρ) fun d => .bnd (g ρ) fun ds => .ret (d :: ds)) := by
  obtain ⟨ta, a1, a2⟩ := h.ex
  obtain ⟨tb, b1, b2⟩ := hr.ex
  refine ⟨tCons ta tb, fun X c => pa_cons (a1 X c) (b1 X c) (hs X.env), fun W σ ρ Q k st h => ?_⟩
  refine a2 W σ ρ _ k st (Post.imp (Post.bnd h) fun d W1 l1 k1 h1 v rv => ?_)
  refine b2 W1 σ ρ _ k1 (st.mono l1) (Post.imp (Post.bnd h1) fun ds W2 l2 k2 h2 vs rvs => ?_)
  exact Post.ret k2 h2 _ (.cons (rv.mono l2) rvs)
def lenOk (n : Nat) : Bool := decide (n ≤ sizeLine)
def tupD (ds : List D) : Mo D := cond (lenOk ds.length) (.ret (.tup ds)) .stuck
def lstD (ds : List D) : Mo D := cond (lenOk ds.length) (.ret (.lst ds)) .stuck
/-- a list that will change -/
def newL (ds : List D) : Mo D := fun M => cond (lenOk ds.length) (some (.ok (.ref M.length), M ++ [.lst ds])) none
theorem post_cond {α : Type} {b : Bool} {m : Mo α} {Q : α → Wd → Prop} (h : Post S W σ ((cond b m .stuck) W.M) Q) : b = true ∧ Post S W σ (m W.M) Q := by
  cases b with
  | true => exact ⟨rfl, h⟩
  | false => exact (show False from h).elim
theorem tupD_run {ds : List D} {vs : List V} {Q : VK} (k : Ok S.K W) (r : RpA S.K W vs ds) (h : Post S W σ (tupD ds W.M) (PV S Q)) : vs.length ≤ sizeLine ∧ ∀ p, W.H p = none → Q (.ref p) (upd W.H p (.tup vs)) := by
  obtain ⟨h1, h2⟩ := post_cond h
  refine ⟨by rw [r.length]; exact of_decide_eq_true h1, fun p hp => ?_⟩
  exact h2 (W.lay p (.tup vs)) (le_lay k hp) (k.lay hp) rfl _ (.tup (.inl (.inl upd_same)) (r.mono (le_lay k hp)))
theorem lstD_run {ds : List D} {vs : List V} {Q : VK} (k : Ok S.K W) (r : RpA S.K W vs ds) (h : Post S W σ (lstD ds W.M) (PV S Q)) : vs.length ≤ sizeLine ∧ ∀ p, W.H p = none → Q (.ref p) (upd W.H p (.lst vs)) := by
  obtain ⟨h1, h2⟩ := post_cond h
  refine ⟨by rw [r.length]; exact of_decide_eq_true h1, fun p hp => ?_⟩
  exact h2 (W.lay p (.lst vs)) (le_lay k hp) (k.lay hp) rfl _ (.lst (.inl upd_same) (k.frz_new hp) (r.mono (le_lay k hp)))
theorem newL_run {ds : List D} {vs : List V} {Q : VK} (k : Ok S.K W) (r : RpA S.K W vs ds) (h : Post S W σ (newL ds W.M) (PV S Q)) : vs.length ≤ sizeLine ∧ ∀ p, W.H p = none → Q (.ref p) (upd W.H p (.lst vs)) := by
  unfold newL at h
  cases e : lenOk ds.length with
  | false => rw [e] at h; exact (show False from h).elim
  | true =>
    rw [e] at h
    refine ⟨by rw [r.length]; exact of_decide_eq_true e, fun p hp => ?_⟩
    have h : ∀ W', Le S.K W W' → Ok S.K W' → W'.M = W.M ++ [.lst ds] → PV S Q (.ref W.M.length) W' := h
    have l := le_grow (K := S.K) (ho := .lst vs) (o := .lst ds) k hp
    refine h (W.grow p (.lst vs) (.lst ds)) l (k.grow hp ⟨vs, upd_same, r.mono l⟩) rfl _ (.ref ?_)
    show (W.β ++ [p])[W.M.length]? = some p
    rw [← k.len]; simp
theorem ex_tup {es : List Expr} {g : En → Mo (List D)} {x1 : Nat} {pos : Pos} (h : AX S es g) : EX S (.Tuple es x1 pos) (fun ρ => .bnd (g ρ) tupD) := by
  obtain ⟨ta, a1, a2⟩ := h.ex
  exact ⟨tTup ta, fun X c => pe_tup (a1 X c), fun W σ ρ Q k st h => a2 W σ ρ _ k st (Post.imp (Post.bnd h) fun ds W1 l1 k1 h1 vs rvs => tupD_run k1 rvs h1)⟩
theorem ex_lst {es : List Expr} {g : En → Mo (List D)} {pos : Pos} (h : AX S es g) : EX S (.List es pos) (fun ρ => .bnd (g ρ) lstD) := by
  obtain ⟨ta, a1, a2⟩ := h.ex
  exact ⟨tLst ta, fun X c => pe_lst (a1 X c), fun W σ ρ Q k st h => a2 W σ ρ _ k st (Post.imp (Post.bnd h) fun ds W1 l1 k1 h1 vs rvs => lstD_run k1 rvs h1)⟩
theorem ex_lstM {es : List Expr} {g : En → Mo (List D)} {pos : Pos} (h : AX S es g) : EX S (.List es pos) (fun ρ => .bnd (g ρ) newL) := by
  obtain ⟨ta, a1, a2⟩ := h.ex
  exact ⟨tLst ta, fun X c => pe_lst (a1 X c), fun W σ ρ Q k st h => a2 W σ ρ _ k st (Post.imp (Post.bnd h) fun ds W1 l1 k1 h1 vs rvs => newL_run k1 rvs h1)⟩

theorem ex_callB {id : String} {x : Str} {p pos : Pos} {e : Expr} {es : List Expr} {g : List D → Mo D} {fa : En → Mo (List D)} (hc : CXx S (.builtin id) g) (hg : Gs S x) (hm : S.mg x = none) (hv : bootBuiltins x = some (.builtin id)) (ha : AX S (e :: es) fa)
    (hn : x ≠ "__name__" := by decide) (hdb : (x == ("__debug__" : Str)) = false := by decide) (he : ∀ env : PySem.Env, starEach (e :: es) env = (false, eval e env) :: starEach es env := by intro; rfl) (hpl : ∀ env : PySem.Env, (backTo pos (starEach es env)).any (·.1) = false := by intro; rfl) :
    EX S (.Call (.Name x p) (e :: es) [] pos) (fun ρ => .bnd (fa ρ) g) := by
  obtain ⟨r, h1, h2⟩ := hc.ex
  obtain ⟨ta, a1, a2⟩ := ha.ex
  refine ⟨tCB r ta, fun X c => pe_callB (h1 X c) (gl_of c hg) (by rw [c.mg]; exact hm) hv (a1 X c) hn hdb (he X.env) (hpl X.env), fun W σ ρ Q k st h => ?_⟩
  exact a2 W σ ρ _ k st (Post.imp (Post.bnd h) fun ds W1 l1 k1 q vs rvs => h2 W1 σ vs ds Q k1 rvs q)
theorem ex_callTy {T : String} {x : Str} {p pos : Pos} {e : Expr} {es : List Expr} {g : List D → Mo D} {fa : En → Mo (List D)} (hc : CXx S (.type T) g) (hg : Gs S x) (hm : S.mg x = none) (hv : bootBuiltins x = some (.type T)) (ha : AX S (e :: es) fa)
    (hn : x ≠ "__name__" := by decide) (hdb : (x == ("__debug__" : Str)) = false := by decide) (he : ∀ env : PySem.Env, starEach (e :: es) env = (false, eval e env) :: starEach es env := by intro; rfl) (hpl : ∀ env : PySem.Env, (backTo pos (starEach es env)).any (·.1) = false := by intro; rfl) :
    EX S (.Call (.Name x p) (e :: es) [] pos) (fun ρ => .bnd (fa ρ) g) := by
  obtain ⟨r, h1, h2⟩ := hc.ex
  obtain ⟨ta, a1, a2⟩ := ha.ex
  refine ⟨tCB r ta, fun X c => pe_callTy (h1 X c) (gl_of c hg) (by rw [c.mg]; exact hm) hv (a1 X c) hn hdb (he X.env) (hpl X.env), fun W σ ρ Q k st h => ?_⟩
  exact a2 W σ ρ _ k st (Post.imp (Post.bnd h) fun ds W1 l1 k1 q vs rvs => h2 W1 σ vs ds Q k1 rvs q)
end
end DL
namespace DL
open PySem PySem.Spec PyProof.Rows L2

inductive Fl where
  | nx (ρ : En) | brk (ρ : En) | cnt (ρ : En) | ret (d : D) | exc (x : Str) (ρ : En)
abbrev Sn := En → Mem → Option (Fl × Mem)

def FlP (S : SC) (W' : Wd) (D : Ends) : Fl → Prop
  | .nx ρ => ∀ σ, StR S.K W' σ ρ → D.nx σ W'.H
  | .brk ρ => ∀ σ, StR S.K W' σ ρ → D.bk σ W'.H
  | .cnt ρ => ∀ σ, StR S.K W' σ ρ → D.ct σ W'.H
  | .ret d => ∀ v, Rp S.K W' v d → D.rt v W'.H
  | .exc x ρ => ∀ σ, StR S.K W' σ ρ → ∀ C, S.mg x = some (.ref C) → S.W (.ref C) none σ W'.H
def PostS (S : SC) (W : Wd) (r : Option (Fl × Mem)) (D : Ends) : Prop := match r with
  | none => False
  | some (f, M') => ∀ W', Le S.K W W' → Ok S.K W' → W'.M = M' → FlP S W' D f
/-- no error may come -/
def Post0 {α : Type} (S : SC) (W : Wd) (r : Rs α) (Q : α → Wd → Prop) : Prop := match r with
  | some (.ok a, M') => ∀ W', Le S.K W W' → Ok S.K W' → W'.M = M' → Q a W'
  | _ => False
section
variable {S : SC} {W W' : Wd} {σ : L2.St} {ρ : En} {D : Ends} {α : Type}
theorem PostS.mono {r : Option (Fl × Mem)} (e : Le S.K W W') (h : PostS S W r D) : PostS S W' r D := by
  cases r with
  | none => exact h
  | some p => obtain ⟨f, M'⟩ := p; exact fun W2 l k m => h W2 (e.trans l) k m
theorem PostS.at {f : Fl} (k : Ok S.K W) (h : PostS S W (some (f, W.M)) D) : FlP S W D f := h W (Le.refl _ _) k rfl
theorem Post0.mono {r : Rs α} {Q : α → Wd → Prop} (e : Le S.K W W') (h : Post0 S W r Q) : Post0 S W' r Q := by
  cases r with
  | none => exact h
  | some p =>
    obtain ⟨r, M'⟩ := p
    cases r with
    | ok a => exact fun W2 l k m => h W2 (e.trans l) k m
    | error x => exact h
theorem Post0.imp {r : Rs α} {Q Q' : α → Wd → Prop} (h : Post0 S W r Q) (i : ∀ a W', Le S.K W W' → Ok S.K W' → Q a W' → Q' a W') : Post0 S W r Q' := by
  cases r with
  | none => exact h
  | some p =>
    obtain ⟨r, M'⟩ := p
    cases r with
    | ok a => exact fun W2 l k m => i a W2 l k (h W2 l k m)
    | error x => exact h
theorem Post0.bnd {β : Type} {m : Mo α} {f : α → Mo β} {Q : β → Wd → Prop} (h : Post0 S W (Mo.bnd m f W.M) Q) : Post0 S W (m W.M) (fun a W1 => Post0 S W1 (f a W1.M) Q) := by
  unfold Mo.bnd at h
  cases e : m W.M with
  | none => rw [e] at h; exact h
  | some p =>
    rw [e] at h
    obtain ⟨r, M1⟩ := p
    cases r with
    | error x => exact h
    | ok a =>
      intro W1 l k hm
      subst hm
      exact Post0.mono l h
theorem Post0.ret {a : α} {Q : α → Wd → Prop} (k : Ok S.K W) (h : Post0 S W (Mo.ret a W.M) Q) : Q a W := h W (Le.refl _ _) k rfl
theorem Post0.post {r : Rs α} {Q : α → Wd → Prop} (h : Post0 S W r Q) : Post S W σ r Q := by
  cases r with
  | none => exact h
  | some p =>
    obtain ⟨r, M'⟩ := p
    cases r with
    | ok a => exact h
    | error x => exact h.elim
/-- an expression's result, then what follows -/
def sE (m : Mo α) (ρ : En) (f : α → Mem → Option (Fl × Mem)) : Mem → Option (Fl × Mem) := fun M => match m M with
  | none => none
  | some (.ok a, M1) => f a M1
  | some (.error x, M1) => some (.exc x ρ, M1)
theorem sE_ret (a : α) (ρ : En) (f : α → Mem → Option (Fl × Mem)) (M : Mem) : sE (.ret a) ρ f M = f a M := rfl
theorem PostS.sE {m : Mo α} {f : α → Mem → Option (Fl × Mem)} (st : StR S.K W σ ρ) (h : PostS S W (sE m ρ f W.M) D) : Post S W σ (m W.M) (fun a W1 => PostS S W1 (f a W1.M) D) := by
  unfold DL.sE at h
  cases e : m W.M with
  | none => rw [e] at h; exact h
  | some p =>
    rw [e] at h
    obtain ⟨r, M1⟩ := p
    cases r with
    | ok a =>
      intro W1 l k hm
      subst hm
      exact PostS.mono l h
    | error x =>
      intro W1 l k hm C hC
      exact h W1 l k hm σ (st.mono l) C hC
def SemS (S : SC) (t : TS) (g : Sn) : Prop := ∀ (W : Wd) (σ : L2.St) (ρ : En) (D : Ends), Ok S.K W → StR S.K W σ ρ → PostS S W (g ρ W.M) D → t D σ W.H
structure SX (S : SC) (st : Stmt) (g : Sn) : Prop where
  ex : ∃ t : TS, (∀ X, InC S X → PS X st t) ∧ SemS S t g
structure BX (S : SC) (st : List Stmt) (g : Sn) : Prop where
  ex : ∃ t : TS, (∀ X, InC S X → PSs X st t) ∧ SemS S t g

def sNext : Sn := fun ρ M => some (.nx ρ, M)
def sSeq (g1 g2 : Sn) : Sn := fun ρ M => match g1 ρ M with
  | some (.nx ρ1, M1) => g2 ρ1 M1
  | r => r
theorem sem_seq {t1 t2 : TS} {g1 g2 : Sn} (h1 : SemS S t1 g1) (h2 : SemS S t2 g2) : SemS S (tSeq t1 t2) (sSeq g1 g2) := by
  intro W σ ρ D k st h
  refine h1 W σ ρ _ k st ?_
  unfold sSeq at h
  cases e : g1 ρ W.M with
  | none => rw [e] at h; exact h
  | some p =>
    rw [e] at h
    obtain ⟨f, M1⟩ := p
    cases f with
    | nx ρ1 =>
      intro W1 l k1 hm σ1 st1
      subst hm
      exact h2 W1 σ1 ρ1 D k1 st1 (PostS.mono l h)
    | brk ρ1 => exact h
    | cnt ρ1 => exact h
    | ret d => exact h
    | exc x ρ1 => exact h
theorem bx_nil : BX S [] sNext := ⟨tNext, fun X c => pss_nil, fun W σ ρ D k st h => PostS.at k h σ st⟩
theorem bx_one {st : Stmt} {g : Sn} (h : SX S st g) : BX S [st] g := let ⟨t, h1, h2⟩ := h.ex; ⟨t, fun X c => pss_one (h1 X c), h2⟩
theorem bx_cons {st : Stmt} {rest : List Stmt} {g1 g2 : Sn} (h1 : SX S st g1) (h2 : BX S rest g2) : BX S (st :: rest) (sSeq g1 g2) := by
  obtain ⟨t1, a1, a2⟩ := h1.ex
  obtain ⟨t2, b1, b2⟩ := h2.ex
  exact ⟨tSeq t1 t2, fun X c => pss_cons (a1 X c) (b1 X c), sem_seq a2 b2⟩
theorem sx_pass {pos : Pos} : SX S (.Pass pos) sNext := ⟨tNext, fun X c => ps_pass, fun W σ ρ D k st h => PostS.at k h σ st⟩
theorem sx_break {pos : Pos} : SX S (.Break pos) (fun ρ M => some (.brk ρ, M)) := ⟨tBreak, fun X c => ps_break, fun W σ ρ D k st h => PostS.at k h σ st⟩
theorem sx_cont {pos : Pos} : SX S (.Continue pos) (fun ρ M => some (.cnt ρ, M)) := ⟨tCont, fun X c => ps_continue, fun W σ ρ D k st h => PostS.at k h σ st⟩
theorem sx_expr {e : Expr} {f : En → Mo DL.D} {pos : Pos} (he : EX S e f) (hs : ∀ env : PySem.Env, swapsWith e none pos.line env = pure false := by intro; rfl) : SX S (.Expr e pos) (fun ρ => sE (f ρ) ρ fun _ M => some (.nx ρ, M)) := by
  obtain ⟨te, e1, e2⟩ := he.ex
  exact ⟨tDrop te, fun X c => ps_expr (e1 X c) (hs X.env), fun W σ ρ D k st h => e2 W σ ρ _ k st (Post.imp (PostS.sE st h) fun a W1 l1 k1 h1 v rv => PostS.at k1 h1 σ (st.mono l1))⟩
theorem sx_ret {e : Expr} {f : En → Mo DL.D} {pos : Pos} (he : EX S e f) : SX S (.Return (some e) pos) (fun ρ => sE (f ρ) ρ fun d M => some (.ret d, M)) := by
  obtain ⟨te, e1, e2⟩ := he.ex
  exact ⟨tRet te, fun X c => ps_ret (e1 X c), fun W σ ρ D k st h => e2 W σ ρ _ k st (Post.imp (PostS.sE st h) fun a W1 l1 k1 h1 v rv => PostS.at k1 h1 v rv)⟩
theorem sx_retN {pos : Pos} : SX S (.Return none pos) (fun ρ M => some (.ret .non, M)) := ⟨tRetN, fun X c => ps_retN, fun W σ ρ D k st h => PostS.at k h _ .non⟩
def sIf (c : En → Mo Bool) (g1 g2 : Sn) : Sn := fun ρ => sE (c ρ) ρ fun b M => cond b (g1 ρ M) (g2 ρ M)
theorem sx_if {c : Expr} {a b : List Stmt} {fc : En → Mo Bool} {g1 g2 : Sn} {pos : Pos} (hc : TX S c fc) (ha : BX S a g1) (hb : BX S b g2) : SX S (.If c a b pos) (sIf fc g1 g2) := by
  obtain ⟨tc, c1, c2⟩ := hc.ex
  obtain ⟨ta, a1, a2⟩ := ha.ex
  obtain ⟨tb, b1, b2⟩ := hb.ex
  refine ⟨tIfS tc ta tb, fun X c => ps_if (c1 X c) (a1 X c) (b1 X c), fun W σ ρ D k st h => c2 W σ ρ _ k st (Post.imp (PostS.sE st h) fun z W1 l1 k1 h1 => ?_)⟩
  cases z with
  | true => rw [if_pos rfl]; exact a2 W1 σ ρ D k1 (st.mono l1) h1
  | false => exact b2 W1 σ ρ D k1 (st.mono l1) h1

def PR (S : SC) (Q : L2.St → Hp → Prop) : En → Wd → Prop := fun ρ W' => ∀ σ, StR S.K W' σ ρ → Q σ W'.H
def SemG (S : SC) (t : TG) (h : DL.D → En → Mo En) : Prop := ∀ (W : Wd) (σ : L2.St) (ρ : En) (v : V) (d : DL.D) (Q : L2.St → Hp → Prop), Ok S.K W → StR S.K W σ ρ → Rp S.K W v d → Post0 S W (h d ρ W.M) (PR S Q) → t v σ W.H Q
def SemGs (S : SC) (t : TGs) (h : List DL.D → En → Mo En) : Prop := ∀ (W : Wd) (σ : L2.St) (ρ : En) (v : List V) (d : List DL.D) (Q : L2.St → Hp → Prop), Ok S.K W → StR S.K W σ ρ → RpA S.K W v d → Post0 S W (h d ρ W.M) (PR S Q) → t v σ W.H Q
structure GX (S : SC) (tg : Expr) (h : DL.D → En → Mo En) : Prop where
  ex : ∃ t : TG, (∀ X, InC S X → PG X tg t) ∧ SemG S t h
structure GXs (S : SC) (tg : List Expr) (h : List DL.D → En → Mo En) : Prop where
  ex : ∃ t : TGs, (∀ X, InC S X → PGs X tg t) ∧ SemGs S t h
theorem loc_fn {X : Cx} {x : Str} (c : InC S X) (hx : S.sc.names.lookup x = some .local ∨ (S.fnc x = true ∧ S.sc.names.lookup x = some .cell)) : L2.Loc X.env.scope x ∧ (X.fn x = true ∨ X.env.scope.names.lookup x = some .local) := by
  unfold L2.Loc
  rw [c.sc]
  rcases hx with h | ⟨h1, h⟩
  · exact ⟨.inl h, .inr h⟩
  · exact ⟨.inr h, .inl (c.fn x h1)⟩
theorem gx_name (i : Nat) {x : Str} {pos : Pos} (hN : S.N.Nodup) (hi : S.N[i]? = some x := by rfl) (hx : S.sc.names.lookup x = some .local ∨ (S.fnc x = true ∧ S.sc.names.lookup x = some .cell) := by first | exact Or.inl rfl | exact Or.inr ⟨rfl, rfl⟩) :
    GX S (.Name x pos) (fun d ρ => .ret (ρ.set i (some d))) :=
  ⟨gName i, fun X c => pg_name (by rw [c.N]; exact hN) (by rw [c.N]; exact hi) (loc_fn c hx).1 (loc_fn c hx).2, fun W σ ρ v d Q k st r h => Post0.ret k h _ (st.set r i)⟩
def gNilD : List DL.D → En → Mo En := fun ds ρ => match ds with
  | [] => .ret ρ
  | _ => .stuck
def gConsD (h : DL.D → En → Mo En) (hs : List DL.D → En → Mo En) : List DL.D → En → Mo En := fun ds ρ => match ds with
  | d :: r => .bnd (h d ρ) fun ρ1 => hs r ρ1
  | _ => .stuck
theorem gxs_nil : GXs S [] gNilD := by
  refine ⟨gNil, fun X c => pgs_nil, fun W σ ρ v d Q k st r h => ?_⟩
  cases r with
  | nil => exact ⟨rfl, Post0.ret k h σ st⟩
  | cons _ _ => exact h.elim
theorem gxs_cons {e : Expr} {es : List Expr} {h' : DL.D → En → Mo En} {hs : List DL.D → En → Mo En} (h1 : GX S e h') (h2 : GXs S es hs)
    (ht : ∀ env : PySem.Env, (assignEach (e :: es) env).map (·.2) = assign e env :: (assignEach es env).map (·.2) := by intro; rfl) : GXs S (e :: es) (gConsD h' hs) := by
  obtain ⟨t1, a1, a2⟩ := h1.ex
  obtain ⟨t2, b1, b2⟩ := h2.ex
  refine ⟨gCons t1 t2, fun X c => pgs_cons (a1 X c) (b1 X c) (ht X.env), fun W σ ρ v d Q k st r h => ?_⟩
  cases r with
  | nil => exact h.elim
  | @cons v vs d ds r1 r2 =>
    have h : Post0 S W (Mo.bnd (h' d ρ) (fun ρ1 => hs ds ρ1) W.M) (PR S Q) := h
    refine ⟨v, vs, rfl, a2 W σ ρ v d _ k st r1 (Post0.imp (Post0.bnd h) fun ρ1 W1 l1 k1 q σ1 st1 => ?_)⟩
    exact b2 W1 σ1 ρ1 vs ds Q k1 st1 (r2.mono l1) q
/-- the items of a tuple -/
def itemsT (n : Nat) : DL.D → Mo (List DL.D)
  | .tup l => cond (decide (l.length = n)) (.ret l) .stuck
  | _ => .stuck
theorem gx_tup {es : List Expr} {kk : Nat} {pos : Pos} {n : Nat} {hs : List DL.D → En → Mo En} (h : GXs S es hs) (hn : ∀ env : PySem.Env, (assignEach es env).length = n := by intro; rfl) (hst : ∀ env : PySem.Env, (assignEach es env).findIdx? (·.1) = none := by intro; rfl) :
    GX S (.Tuple es kk pos) (fun d ρ => .bnd (itemsT n d) fun ds => hs ds ρ) := by
  obtain ⟨t, a1, a2⟩ := h.ex
  refine ⟨gTup S.F n t, fun X c => by have z := pg_tup (k := kk) (pos := pos) c.calm (a1 X c) (hn X.env) (hst X.env); rw [c.K] at z; exact z, fun W σ ρ v d Q k st r h => ?_⟩
  cases r with
  | @tup a xs ds h1 h2 =>
    have h := Post0.bnd h
    have h : Post0 S W ((cond (decide (ds.length = n)) (Mo.ret ds) Mo.stuck) W.M) (fun ds W1 => Post0 S W1 (hs ds ρ W1.M) (PR S Q)) := h
    by_cases e : ds.length = n
    · rw [decide_eq_true e] at h
      exact ⟨a, xs, rfl, h1, by rw [h2.length]; exact e, a2 W σ ρ xs ds Q k st h2 (Post0.ret k h)⟩
    · rw [decide_eq_false e] at h
      exact h.elim
  | _ => exact (show False from h).elim

/-- behind a target -/
def s0 (m : Mo En) : Mem → Option (Fl × Mem) := fun M => match m M with
  | some (.ok ρ, M1) => some (.nx ρ, M1)
  | _ => none
theorem s0_ret (ρ : En) (M : Mem) : s0 (.ret ρ) M = some (.nx ρ, M) := rfl
theorem PostS.s0 {m : Mo En} (h : PostS S W (s0 m W.M) D) : Post0 S W (m W.M) (PR S D.nx) := by
  unfold DL.s0 at h
  cases e : m W.M with
  | none => rw [e] at h; exact h
  | some p =>
    rw [e] at h
    obtain ⟨r, M1⟩ := p
    cases r with
    | ok a => exact h
    | error x => exact h
theorem sx_asg {tg e : Expr} {f : En → Mo DL.D} {g : DL.D → En → Mo En} {pos : Pos} (he : EX S e f) (hg : GX S tg g) (hs : ∀ env : PySem.Env, swapsWithSole [tg] e pos.line env = pure false := by intro; rfl) (hw : ∀ X, InC S X → swappedStores [tg] e X.env = pure none := by intros; rfl)
    (h1 : ∀ env : PySem.Env, (assignEach [tg] env).map (·.2) = [assign tg env] := by intro; rfl) : SX S (.Assign [tg] e pos) (fun ρ => sE (f ρ) ρ fun d => s0 (g d ρ)) := by
  obtain ⟨te, e1, e2⟩ := he.ex
  obtain ⟨tg', g1, g2⟩ := hg.ex
  refine ⟨tAsg te tg', fun X c => ps_asg (e1 X c) (g1 X c) (hs X.env) (hw X c) (h1 X.env), fun W σ ρ D k st h => ?_⟩
  exact e2 W σ ρ _ k st (Post.imp (PostS.sE st h) fun a W1 l1 k1 q v rv => g2 W1 σ ρ v a _ k1 (st.mono l1) rv (PostS.s0 q))
theorem sx_set (i : Nat) {x : Str} {e : Expr} {f : En → Mo DL.D} {pos pos' : Pos} (hN : S.N.Nodup) (he : EX S e f) (hi : S.N[i]? = some x := by rfl) (hx : S.sc.names.lookup x = some .local ∨ (S.fnc x = true ∧ S.sc.names.lookup x = some .cell) := by first | exact Or.inl rfl | exact Or.inr ⟨rfl, rfl⟩)
    (hs : ∀ X, InC S X → swapsWith e (some (.Name x pos')) pos.line X.env = pure false := by intros; rfl) : SX S (.Assign [.Name x pos'] e pos) (fun ρ => sE (f ρ) ρ fun d M => some (.nx (ρ.set i (some d)), M)) := by
  obtain ⟨te, e1, e2⟩ := he.ex
  refine ⟨tAsg te (gName i), fun X c => ps_set (by rw [c.N]; exact hN) (by rw [c.N]; exact hi) (loc_fn c hx).1 (e1 X c) (hs X c) (loc_fn c hx).2, fun W σ ρ D k st h => ?_⟩
  exact e2 W σ ρ _ k st (Post.imp (PostS.sE st h) fun a W1 l1 k1 q v rv => PostS.at k1 q _ ((st.mono l1).set rv i))
def par2 (i j : Nat) (ρ : En) : List DL.D → Mem → Option (Fl × Mem)
  | [a, b], M => some (.nx ((ρ.set i (some a)).set j (some b)), M)
  | _, _ => none
theorem sx_par (i j : Nat) {x y : Str} {a b : Expr} {fa : En → Mo (List DL.D)} {px py pt pos : Pos} {kt k2 : Nat} {pt2 : Pos} (hN : S.N.Nodup) (ha : AX S [a, b] fa) (hi : S.N[i]? = some x := by rfl) (hj : S.N[j]? = some y := by rfl) (hij : i ≠ j := by decide)
    (hx : S.sc.names.lookup x = some .local := by rfl) (hy : S.sc.names.lookup y = some .local := by rfl)
    (hw : ∀ X, InC S X → swappedStores [.Tuple [.Name x px, .Name y py] kt pt] (.Tuple [a, b] k2 pt2) X.env = pure (some [x, y]))
    (hs : ∀ env : PySem.Env, swapsWithSole [.Tuple [.Name x px, .Name y py] kt pt] (.Tuple [a, b] k2 pt2) pos.line env = pure false := by intro; rfl) :
    SX S (.Assign [.Tuple [.Name x px, .Name y py] kt pt] (.Tuple [a, b] k2 pt2) pos) (fun ρ => sE (fa ρ) ρ (par2 i j ρ)) := by
  obtain ⟨ta, a1, a2⟩ := ha.ex
  refine ⟨tPar i j ta, fun X c => ps_par c.calm (by rw [c.N]; exact hN) (by rw [c.N]; exact hi) (by rw [c.N]; exact hj) hij (by rw [c.sc]; exact hx) (by rw [c.sc]; exact hy) (a1 X c) (hw X c) (hs X.env), fun W σ ρ D k st h => ?_⟩
  refine a2 W σ ρ _ k st (Post.imp (PostS.sE st h) fun ds W1 l1 k1 q vs rvs => ?_)
  match ds, rvs, q with
  | [a, b], .cons (v := va) ra (.cons (v := vb) rb .nil), q =>
    exact ⟨va, vb, rfl, PostS.at k1 q _ (((st.mono l1).set ra i).set rb j)⟩
  | [], .nil, q => exact q.elim
  | [a], .cons _ .nil, q => exact q.elim
  | a :: b :: c :: r, _, q => exact q.elim
/-- x op= e -/
structure IpX (S : SC) (op : Operator) (g : DL.D → DL.D → Mo DL.D) : Prop where
  ex : ∃ r : TIp, (∀ X, InC S X → PIp X op r) ∧ ∀ (W : Wd) (σ : L2.St) (x y : V) (a b : DL.D) (Q : VK), Ok S.K W → Rp S.K W x a → Rp S.K W y b → Post S W σ (g a b W.M) (PV S Q) → r x y W.H Q
theorem sx_aug (i : Nat) {x : Str} {e : Expr} {op : Operator} {g : DL.D → DL.D → Mo DL.D} {f : En → Mo DL.D} {pos pos' : Pos} (hN : S.N.Nodup) (ho : IpX S op g) (he : EX S e f) (hi : S.N[i]? = some x := by rfl) (hx : S.sc.names.lookup x = some .local ∨ (S.fnc x = true ∧ S.sc.names.lookup x = some .cell) := by first | exact Or.inl rfl | exact Or.inr ⟨rfl, rfl⟩) :
    SX S (.AugAssign (.Name x pos') op e pos) (fun ρ => sE (.bnd (getV ρ i) fun a => .bnd (f ρ) fun b => g a b) ρ fun d M => some (.nx (ρ.set i (some d)), M)) := by
  obtain ⟨te, e1, e2⟩ := he.ex
  obtain ⟨r, o1, o2⟩ := ho.ex
  refine ⟨tAug i te r, fun X c => ps_aug (by rw [c.N]; exact hN) (by rw [c.N]; exact hi) (loc_fn c hx).1 (e1 X c) (o1 X c) (loc_fn c hx).2, fun W σ ρ D k st h => ?_⟩
  have h := Post.bnd (PostS.sE st h)
  by_cases e : ∃ d, ρ[i]? = some (some d)
  · obtain ⟨d, e⟩ := e
    rw [getV_some e] at h
    obtain ⟨v, h1, h2⟩ := st.2 i d e
    refine ⟨v, h1, e2 W σ ρ _ k st (Post.imp (Post.bnd (Post.ret k h)) fun b W1 l1 k1 q u ru => ?_)⟩
    refine o2 W1 σ v u d b _ k1 (h2.mono l1) ru (Post.imp q fun z W2 l2 k2 q2 w rw' => ?_)
    exact PostS.at k2 q2 _ (((st.mono l1).mono l2).set rw' i)
  · rw [getV_none fun d q => e ⟨d, q⟩] at h
    exact h.elim

structure Itd' where
  items : List DL.D
  gd : Option (Nat × O)
def gdOk (g : Option (Nat × O)) (M : Mem) : Prop := match g with
  | none => True
  | some (n, o) => M[n]? = some o
def ItOk (S : SC) (W0 : Wd) (J : It) (it : Itd') : Prop := it.items.length ≤ sizeLine ∧ ∀ W1, LeZ S.K W0 W1 → Ok S.K W1 → gdOk it.gd W1.M →
  (∀ i, i < it.items.length → J.go i W1.H ∧ ∀ x H', J.yld i W1.H x H' → ∃ W2, Le S.K W1 W2 ∧ Ok S.K W2 ∧ W2.M = W1.M ∧ W2.H = H' ∧ ∃ d, it.items[i]? = some d ∧ Rp S.K W2 x d) ∧ J.stop it.items.length W1.H
def SemI (S : SC) (wi : TI) (f : En → Mo Itd') : Prop := ∀ (W : Wd) (σ : L2.St) (ρ : En) (R : It → Hp → Prop), Ok S.K W → StR S.K W σ ρ → Post S W σ (f ρ W.M) (fun it W' => ∀ J, ItOk S W' J it → R J W'.H) → wi σ W.H R
structure IX (S : SC) (tg iter : Expr) (f : En → Mo Itd') : Prop where
  ex : ∃ wi : TI, (∀ X, InC S X → PI X tg iter wi) ∧ SemI S wi f
open Classical in
noncomputable def guardM (g : Option (Nat × O)) (k : Mem → Option α) : Mem → Option α := fun M => if gdOk g M then k M else none
theorem guardM_none (k : Mem → Option α) (M : Mem) : guardM none k M = k M := if_pos trivial
theorem guardM_some {n : Nat} {o : O} {k : Mem → Option α} {M : Mem} (h : M[n]? = some o) : guardM (some (n, o)) k M = k M := if_pos h
/-- behind a turn of a loop -/
def turnK (r : Option (Fl × Mem)) (k : En → Mem → Option (Fl × Mem)) : Option (Fl × Mem) := match r with
  | some (.nx ρ2, M2) => k ρ2 M2
  | some (.cnt ρ2, M2) => k ρ2 M2
  | some (.brk ρ2, M2) => some (.nx ρ2, M2)
  | z => z
def assK (r : Rs En) (k : En → Mem → Option (Fl × Mem)) : Option (Fl × Mem) := match r with
  | some (.ok ρ1, M1) => k ρ1 M1
  | _ => none
noncomputable def forL (g : Option (Nat × O)) (h : DL.D → En → Mo En) (body : Sn) : List DL.D → Sn
  | [], ρ => guardM g fun M => some (.nx ρ, M)
  | d :: r, ρ => guardM g fun M => assK (h d ρ M) fun ρ1 M1 => turnK (body ρ1 M1) (forL g h body r)
theorem turnK_run {r : Option (Fl × Mem)} {k : En → Mem → Option (Fl × Mem)} {N : L2.St → Hp → Prop} (h : PostS S W (turnK r k) D) (hN : ∀ W' σ' ρ', Le S.K W W' → Ok S.K W' → StR S.K W' σ' ρ' → PostS S W' (k ρ' W'.M) D → N σ' W'.H) :
    PostS S W r { D with nx := N, ct := N, bk := D.nx } := by
  cases r with
  | none => exact h
  | some p =>
    obtain ⟨f, M5⟩ := p
    cases f with
    | nx ρ5 =>
      intro W5 l6 k5 hm5 σ5 st5
      subst hm5
      exact hN W5 σ5 ρ5 l6 k5 st5 (PostS.mono l6 h)
    | cnt ρ5 =>
      intro W5 l6 k5 hm5 σ5 st5
      subst hm5
      exact hN W5 σ5 ρ5 l6 k5 st5 (PostS.mono l6 h)
    | brk ρ5 => exact h
    | ret d => exact h
    | exc x ρ5 => exact h
theorem assK_run {r : Rs En} {k : En → Mem → Option (Fl × Mem)} (h : PostS S W (assK r k) D) : Post0 S W r (fun ρ1 W1 => PostS S W1 (k ρ1 W1.M) D) := by
  cases r with
  | none => exact h
  | some p =>
    obtain ⟨f, M5⟩ := p
    cases f with
    | error x => exact h
    | ok ρ1 =>
      intro W5 l6 k5 hm5
      subst hm5
      exact PostS.mono l6 h
theorem guardM_run {g : Option (Nat × O)} {k : Mem → Option (Fl × Mem)} (h : PostS S W (guardM g k W.M) D) : gdOk g W.M ∧ PostS S W (k W.M) D := by
  by_cases hg : gdOk g W.M
  · exact ⟨hg, by have e : guardM g k W.M = k W.M := if_pos hg
                  rw [e] at h; exact h⟩
  · have e : guardM g k W.M = none := if_neg hg
    rw [e] at h; exact h.elim
noncomputable def sFor (f : En → Mo Itd') (h : DL.D → En → Mo En) (body : Sn) : Sn := fun ρ => sE (f ρ) ρ fun it => forL it.gd h body it.items ρ
theorem sem_for {wi : TI} {f : En → Mo Itd'} {tg : TG} {h : DL.D → En → Mo En} {tb : TS} {body : Sn} (hi : SemI S wi f) (hg : SemG S tg h) (hb : SemS S tb body) : SemS S (tFor wi tg tb) (sFor f h body) := by
  intro W σ ρ D k st hh
  refine hi W σ ρ _ k st (Post.imp (PostS.sE st hh) fun it W1 l1 k1 q J hJ => ?_)
  refine ⟨fun i m σ' H' => m = it.items.length - i ∧ i ≤ it.items.length ∧ ∃ W2 ρ2, Le S.K W1 W2 ∧ Ok S.K W2 ∧ W2.H = H' ∧ StR S.K W2 σ' ρ2 ∧ PostS S W2 (forL it.gd h body (it.items.drop i) ρ2 W2.M) D, ⟨it.items.length, by simp, Nat.zero_le _, W1, ρ, Le.refl _ _, k1, rfl, st.mono l1, q⟩, ?_⟩
  rintro i m σ' H' ⟨rfl, hi, W2, ρ2, l2, k2, rfl, st2, q2⟩
  by_cases hlt : i < it.items.length
  · rw [List.drop_eq_getElem_cons hlt] at q2
    obtain ⟨hgd, q3⟩ := guardM_run (show PostS S W2 (guardM it.gd (fun M => assK (h it.items[i] ρ2 M) fun ρ1 M1 => turnK (body ρ1 M1) (forL it.gd h body (it.items.drop (i + 1)))) W2.M) D from q2)
    obtain ⟨go, yl⟩ := (hJ.2 W2 l2.toZ k2 hgd).1 i hlt
    refine .inr ⟨go, fun σ3 H3 => ∃ W3 ρ3, Le S.K W1 W3 ∧ Ok S.K W3 ∧ W3.H = H3 ∧ StR S.K W3 σ3 ρ3 ∧ PostS S W3 (forL it.gd h body (it.items.drop (i + 1)) ρ3 W3.M) D, ?_, ?_⟩
    · rintro σ3 H3 ⟨W3, ρ3, a1, a2, a3, a4, a5⟩
      exact ⟨it.items.length - (i + 1), by omega, rfl, hlt, W3, ρ3, a1, a2, a3, a4, a5⟩
    · intro x H' hy
      obtain ⟨W3, l3, k3, m3, rfl, d, hd, rd⟩ := yl x H' hy
      have hd' : d = it.items[i] := by
        rw [List.getElem?_eq_getElem hlt] at hd
        exact (Option.some.inj hd).symm
      subst hd'
      have q3 := PostS.mono l3 q3
      rw [← m3] at q3
      refine hg W3 σ' ρ2 x _ _ k3 (st2.mono l3) rd (Post0.imp (assK_run q3) fun ρ4 W4 l4 k4 q4 σ4 st4 => ?_)
      refine hb W4 σ4 ρ4 _ k4 st4 (turnK_run q4 fun W5 σ5 ρ5 l5 k5 st5 q5 => ?_)
      exact ⟨W5, ρ5, ((l2.trans l3).trans l4).trans l5, k5, rfl, st5, q5⟩
  · have e : i = it.items.length := by omega
    subst e
    rw [List.drop_length] at q2
    obtain ⟨hgd, q3⟩ := guardM_run (show PostS S W2 (guardM it.gd (fun M => some (.nx ρ2, M)) W2.M) D from q2)
    exact .inl ⟨(hJ.2 W2 l2.toZ k2 hgd).2, PostS.at k2 q3 σ' st2⟩
theorem sx_for {tg iter : Expr} {body : List Stmt} {f : En → Mo Itd'} {h : DL.D → En → Mo En} {g : Sn} {pos : Pos} (hdf : S.df = true) (hi : IX S tg iter f) (hg : GX S tg h) (hb : BX S body g)
    (hs : ∀ (env : PySem.Env) x, foldedSetIterable iter env x = pure x := by intro _ _; rfl) : SX S (.For tg iter body [] pos) (sFor f h g) := by
  obtain ⟨wi, i1, i2⟩ := hi.ex
  obtain ⟨t, g1, g2⟩ := hg.ex
  obtain ⟨tb, b1, b2⟩ := hb.ex
  exact ⟨tFor wi t tb, fun X c => ps_for (c.own hdf) c.calm (i1 X c) (g1 X c) (b1 X c) (hs X.env), sem_for i2 g2 b2⟩
/-- while: at most n turns -/
def whileN (c : En → Mo Bool) (body : Sn) : Nat → Sn
  | 0, _, _ => none
  | n + 1, ρ, M => sE (c ρ) ρ (fun b M1 => cond b (turnK (body ρ M1) (whileN c body n)) (some (.nx ρ, M1))) M
theorem sem_while {tc : TT} {c : En → Mo Bool} {tb : TS} {body : Sn} (n : Nat) (hc : SemT S tc c) (hb : SemS S tb body) : SemS S (tWhile tc tb) (whileN c body n) := by
  intro W σ ρ D k st hh
  refine ⟨fun m σ' H' => ∃ W2 ρ2, Ok S.K W2 ∧ W2.H = H' ∧ StR S.K W2 σ' ρ2 ∧ PostS S W2 (whileN c body m ρ2 W2.M) D, ⟨n, W, ρ, k, rfl, st, hh⟩, ?_⟩
  rintro m σ' H' ⟨W2, ρ2, k2, rfl, st2, q2⟩
  cases m with
  | zero => exact q2.elim
  | succ m =>
    refine hc W2 σ' ρ2 _ k2 st2 (Post.imp (PostS.sE st2 (f := fun b M1 => cond b (turnK (body ρ2 M1) (whileN c body m)) (some (.nx ρ2, M1))) q2) fun b W3 l3 k3 q3 => ?_)
    cases b with
    | false => exact PostS.at k3 q3 σ' (st2.mono l3)
    | true =>
      rw [if_pos rfl]
      refine ⟨fun σ4 H4 => ∃ W4 ρ4, Ok S.K W4 ∧ W4.H = H4 ∧ StR S.K W4 σ4 ρ4 ∧ PostS S W4 (whileN c body m ρ4 W4.M) D, fun σ4 H4 q4 => ⟨m, Nat.lt_succ_self m, q4⟩, ?_⟩
      exact hb W3 σ' ρ2 _ k3 (st2.mono l3) (turnK_run q3 fun W5 σ5 ρ5 l5 k5 st5 q5 => ⟨W5, ρ5, k5, rfl, st5, q5⟩)
theorem sx_while (n : Nat) {c : Expr} {body : List Stmt} {fc : En → Mo Bool} {g : Sn} {pos : Pos} (hdf : S.df = true) (hc : TX S c fc) (hb : BX S body g) : SX S (.While c body [] pos) (whileN fc g n) := by
  obtain ⟨tc, c1, c2⟩ := hc.ex
  obtain ⟨tb, b1, b2⟩ := hb.ex
  exact ⟨tWhile tc tb, fun X c => ps_while (c.own hdf) (c1 X c) (b1 X c), sem_while n c2 b2⟩
end
end DL
namespace DL
open PySem PySem.Spec PyProof.Rows L2

mutual
/-- references replaced -/
def subst (f : Nat → Option D) : D → Option D
  | .non => some .non
  | .bl b => some (.bl b)
  | .int i => some (.int i)
  | .str x => some (.str x)
  | .tup l => (substL f l).map .tup
  | .lst l => (substL f l).map .lst
  | .dct t l => (substK f l).map (.dct t)
  | .ref n => f n
  | .obj a => some (.obj a)
  | .ty n => some (.ty n)
  | .set l => some (.set l)
  | .seti l => some (.seti l)
  | .tpn l => (substL f l).map .tpn
def substL (f : Nat → Option D) : List D → Option (List D)
  | [] => some []
  | d :: r => match subst f d, substL f r with
    | some d', some r' => some (d' :: r')
    | _, _ => none
def substK (f : Nat → Option D) : List (D × D) → Option (List (D × D))
  | [] => some []
  | (k, d) :: r => match subst f d, substK f r with
    | some d', some r' => some ((k, d') :: r')
    | _, _ => none
end
mutual
def noref : D → Bool
  | .tup l => norefL l
  | .lst l => norefL l
  | .dct _ l => norefK l
  | .ref _ => false
  | .tpn l => norefL l
  | _ => true
def norefL : List D → Bool
  | [] => true
  | d :: r => noref d && norefL r
def norefK : List (D × D) → Bool
  | [] => true
  | (_, d) :: r => noref d && norefK r
end
mutual
theorem subst_noref {f : Nat → Option D} : ∀ {d : D}, noref d = true → subst f d = some d
  | .non, _ => rfl
  | .bl b, _ => rfl
  | .int i, _ => rfl
  | .str x, _ => rfl
  | .tup l, h => by rw [subst, substL_noref (by simpa [noref] using h)]; rfl
  | .lst l, h => by rw [subst, substL_noref (by simpa [noref] using h)]; rfl
  | .dct t l, h => by rw [subst, substK_noref (by simpa [noref] using h)]; rfl
  | .ref n, h => by simp [noref] at h
  | .obj a, _ => rfl
  | .ty n, _ => rfl
  | .set l, _ => rfl
  | .seti l, _ => rfl
  | .tpn l, h => by rw [subst, substL_noref (by simpa [noref] using h)]; rfl
theorem substL_noref {f : Nat → Option D} : ∀ {d : List D}, norefL d = true → substL f d = some d
  | [], _ => rfl
  | d :: r, h => by
    simp only [norefL, Bool.and_eq_true] at h
    rw [substL, subst_noref h.1, substL_noref h.2]
theorem substK_noref {f : Nat → Option D} : ∀ {d : List (D × D)}, norefK d = true → substK f d = some d
  | [], _ => rfl
  | (k, d) :: r, h => by
    simp only [norefK, Bool.and_eq_true] at h
    rw [substK, subst_noref h.1, substK_noref h.2]
end
theorem norefL_all (l : List D) : norefL l = l.all noref := by
  induction l with
  | nil => rfl
  | cons d r ih => simp [norefL, ih]
section
variable {K : KP} {W W' : Wd}
/-- a description goes over, its references through f -/
structure Over (K : KP) (W W' : Wd) (f : Nat → Option D) : Prop where
  H : W'.H = W.H
  frz : ∀ a, W.frz a → W'.frz a
  f : ∀ (n : Nat) (a : Addr) (d : D), W.β[n]? = some a → f n = some d → Rp K W' (.ref a) d
mutual
theorem rp_subst {f : Nat → Option D} (o : Over K W W' f) : ∀ {v : V} {d d' : D}, Rp K W v d → subst f d = some d' → Rp K W' v d'
  | _, _, _, .non, h => by cases h; exact .non
  | _, _, _, .bl b, h => by cases h; exact .bl b
  | _, _, _, .int i, h => by cases h; exact .int i
  | _, _, _, .str x, h => by cases h; exact .str x
  | _, _, _, .tup (ds := ds) h1 r, h => by
    rw [subst] at h
    cases e : substL f ds with
    | none => rw [e] at h; cases h
    | some ds' => rw [e] at h; cases h; exact .tup (by rw [o.H]; exact h1) (rpa_subst o r e)
  | _, _, _, .lst (ds := ds) h1 f1 r, h => by
    rw [subst] at h
    cases e : substL f ds with
    | none => rw [e] at h; cases h
    | some ds' => rw [e] at h; cases h; exact .lst (by rw [o.H]; exact h1) (o.frz _ f1) (rpa_subst o r e)
  | _, _, _, .lstK (ds := ds) h1 r, h => by
    rw [subst] at h
    cases e : substL f ds with
    | none => rw [e] at h; cases h
    | some ds' => rw [e] at h; cases h; exact .lstK h1 (rpa_subst o r e)
  | _, _, _, .dK (ds := ds) h1 f1 r, h => by
    rw [subst] at h
    cases e : substK f ds with
    | none => rw [e] at h; cases h
    | some ds' => rw [e] at h; cases h; exact .dK (by rw [o.H]; exact h1) (o.frz _ f1) (rpk_subst o r e)
  | _, _, _, .dT (ds := ds) h1 f1 q1 r, h => by
    rw [subst] at h
    cases e : substK f ds with
    | none => rw [e] at h; cases h
    | some ds' => rw [e] at h; cases h; exact .dT (by rw [o.H]; exact h1) (o.frz _ f1) (by rw [o.H]; exact q1) (rpt_subst o r e)
  | _, _, _, .ref h1, h => o.f _ _ _ h1 h
  | _, _, _, .obj a, h => by cases h; exact .obj a
  | _, _, _, .ty n, h => by cases h; exact .ty n
  | _, _, _, .set h1, h => by cases h; exact .set (by unfold SetAt at h1 ⊢; rw [o.H]; exact h1)
  | _, _, _, .seti h1, h => by cases h; exact .seti (by unfold SetIAt at h1 ⊢; rw [o.H]; exact h1)
  | _, _, _, .tpn (ds := ds) h1 n1 r, h => by
    rw [subst] at h
    cases e : substL f ds with
    | none => rw [e] at h; cases h
    | some ds' => rw [e] at h; cases h; exact .tpn (by rw [o.H]; exact h1) n1 (rpa_subst o r e)
theorem rpa_subst {f : Nat → Option D} (o : Over K W W' f) : ∀ {v : List V} {d d' : List D}, RpA K W v d → substL f d = some d' → RpA K W' v d'
  | _, _, _, .nil, h => by cases h; exact .nil
  | _, _, _, .cons (d := d) (ds := ds) h1 h2, h => by
    rw [substL] at h
    cases e : subst f d with
    | none => rw [e] at h; cases h
    | some d1 =>
      cases e2 : substL f ds with
      | none => rw [e, e2] at h; cases h
      | some ds1 => rw [e, e2] at h; cases h; exact .cons (rp_subst o h1 e) (rpa_subst o h2 e2)
theorem rpk_subst {f : Nat → Option D} (o : Over K W W' f) : ∀ {v : List (Key × V)} {d d' : List (D × D)}, RpK K W v d → substK f d = some d' → RpK K W' v d'
  | _, _, _, .nil, h => by cases h; exact .nil
  | _, _, _, .cons (d := d) (ds := ds) h1 h2, h => by
    rw [substK] at h
    cases e : subst f d with
    | none => rw [e] at h; cases h
    | some d1 =>
      cases e2 : substK f ds with
      | none => rw [e, e2] at h; cases h
      | some ds1 => rw [e, e2] at h; cases h; exact .cons (rp_subst o h1 e) (rpk_subst o h2 e2)
theorem rpt_subst {f : Nat → Option D} (o : Over K W W' f) : ∀ {v : List (List Key × V)} {d d' : List (D × D)}, RpT K W v d → substK f d = some d' → RpT K W' v d'
  | _, _, _, .nil, h => by cases h; exact .nil
  | _, _, _, .cons (d := d) (ds := ds) h1 h2, h => by
    rw [substK] at h
    cases e : subst f d with
    | none => rw [e] at h; cases h
    | some d1 =>
      cases e2 : substK f ds with
      | none => rw [e, e2] at h; cases h
      | some ds1 => rw [e, e2] at h; cases h; exact .cons (rp_subst o h1 e) (rpt_subst o h2 e2)
end
/-- refs below n stay -/
def lowF (n0 : Nat) (n : Nat) : Option D := if n < n0 then some (.ref n) else none
mutual
theorem subst_low {n0 : Nat} {f : Nat → Option D} (hf : ∀ n, n < n0 → f n = some (.ref n)) : ∀ {v : V} {d : D}, W.β.length ≤ n0 → Rp K W v d → subst f d = some d
  | _, _, _, .non => rfl
  | _, _, _, .bl b => rfl
  | _, _, _, .int i => rfl
  | _, _, _, .str x => rfl
  | _, _, h, .tup h1 r => by rw [subst, substL_low hf h r]; rfl
  | _, _, h, .lst h1 f1 r => by rw [subst, substL_low hf h r]; rfl
  | _, _, h, .lstK h1 r => by rw [subst, substL_low hf h r]; rfl
  | _, _, h, .dK h1 f1 r => by rw [subst, substK_low hf h r]; rfl
  | _, _, h, .dT h1 f1 q1 r => by rw [subst, substT_low hf h r]; rfl
  | _, _, h, .ref h1 => hf _ (Nat.lt_of_lt_of_le (List.getElem?_eq_some_iff.mp h1).1 h)
  | _, _, _, .obj a => rfl
  | _, _, _, .ty n => rfl
  | _, _, _, .set _ => rfl
  | _, _, _, .seti _ => rfl
  | _, _, h, .tpn h1 n1 r => by rw [subst, substL_low hf h r]; rfl
theorem substL_low {n0 : Nat} {f : Nat → Option D} (hf : ∀ n, n < n0 → f n = some (.ref n)) : ∀ {v : List V} {d : List D}, W.β.length ≤ n0 → RpA K W v d → substL f d = some d
  | _, _, _, .nil => rfl
  | _, _, h, .cons h1 h2 => by rw [substL, subst_low hf h h1, substL_low hf h h2]
theorem substK_low {n0 : Nat} {f : Nat → Option D} (hf : ∀ n, n < n0 → f n = some (.ref n)) : ∀ {v : List (Key × V)} {d : List (D × D)}, W.β.length ≤ n0 → RpK K W v d → substK f d = some d
  | _, _, _, .nil => rfl
  | _, _, h, .cons h1 h2 => by rw [substK, subst_low hf h h1, substK_low hf h h2]
theorem substT_low {n0 : Nat} {f : Nat → Option D} (hf : ∀ n, n < n0 → f n = some (.ref n)) : ∀ {v : List (List Key × V)} {d : List (D × D)}, W.β.length ≤ n0 → RpT K W v d → substK f d = some d
  | _, _, _, .nil => rfl
  | _, _, h, .cons h1 h2 => by rw [substK, subst_low hf h h1, substT_low hf h h2]
end
end
/-- what stands at a place, as a tree -/
def frF (M : Mem) (n0 : Nat) : Nat → Nat → Option D
  | 0, n => if n < n0 then some (.ref n) else none
  | k + 1, n => if n < n0 then some (.ref n) else match M[n]? with
    | some (.lst l) => (substL (frF M n0 k) l).map .lst
    | some (.dct t l) => (substK (frF M n0 k) l).map (.dct t)
    | _ => none
def frO (f : Nat → Option D) : O → Option O
  | .lst l => (substL f l).map .lst
  | .dct t l => (substK f l).map (.dct t)
  | .ins C fs => (substL f (fs.map (·.2))).map fun l => .ins C ((fs.map (·.1)).zip l)
  | .dead => some .dead
open Classical in
/-- the memory as it was grown ahead of a call, behind it -/
noncomputable def finM (M0 M : Mem) : Option Mem := if M.take M0.length = M0 then some M0 else (M.take M0.length).mapM (frO (frF M M0.length 3))
noncomputable def fin (M0 M : Mem) (d : D) : Rs D := match subst (frF M M0.length 3) d, finM M0 M with
  | some d', some M' => some (.ok d', M')
  | _, _ => none
noncomputable def fnR (M0 : Mem) (r : Option (Fl × Mem)) : Rs D := match r with
  | some (.ret d, M) => fin M0 M d
  | some (.nx _, M) => fin M0 M .non
  | some (.exc x _, M) => (finM M0 M).map fun M' => (.error x, M')
  | _ => none
/-- .. what was made stays open to change -/
def fnW (r : Option (Fl × Mem)) : Rs D := match r with
  | some (.ret d, M) => some (.ok d, M)
  | some (.nx _, M) => some (.ok .non, M)
  | some (.exc x _, M) => some (.error x, M)
  | _ => none
section
variable {K : KP} {W W2 : Wd}
theorem zip_self {α β : Type} : ∀ fs : List (α × β), (fs.map (·.1)).zip (fs.map (·.2)) = fs
  | [] => rfl
  | p :: r => by simp [zip_self r]
theorem mapM_some {α β : Type} {f : α → Option β} : ∀ {l : List α} {r : List β}, l.mapM f = some r → r.length = l.length ∧ ∀ (n : Nat) (a : α), l[n]? = some a → ∃ b, r[n]? = some b ∧ f a = some b
  | [], r, h => by
    simp at h; subst h; exact ⟨rfl, fun n a e => by simp at e⟩
  | x :: l, r, h => by
    rw [List.mapM_cons] at h
    cases e : f x with
    | none => rw [e] at h; cases h
    | some y =>
      cases e2 : l.mapM f with
      | none => rw [e, e2] at h; cases h
      | some r' =>
        rw [e, e2] at h
        cases h
        obtain ⟨h1, h2⟩ := mapM_some e2
        refine ⟨by simp [h1], fun n a q => ?_⟩
        cases n with
        | zero => simp at q; subst q; exact ⟨y, rfl, e⟩
        | succ n => simpa using h2 n a (by simpa using q)
theorem finM_run (k : Ok K W) (k2 : Ok K W2) (l : Le K W W2) {M' : Mem} (h : finM W.M W2.M = some M') :
    ∃ W3 : Wd, W3.M = M' ∧ W3.H = W2.H ∧ Le K W W3 ∧ Ok K W3 ∧ ∀ j, Over K W2 W3 (frF W2.M W.M.length j) := by
  have hlen : W.β.length ≤ W2.β.length := by
    rcases Nat.lt_or_ge W2.β.length W.β.length with h | h
    · have e : W.β[W2.β.length]? = some W.β[W2.β.length] := List.getElem?_eq_getElem h
      have := List.getElem?_eq_some_iff.mp (l.β _ _ e)
      exact absurd this.1 (Nat.lt_irrefl _)
    · exact h
  have hβ : W2.β.take W.β.length = W.β := by
    apply List.ext_getElem?
    intro n
    by_cases hn : n < W.β.length
    · rw [List.getElem?_take_of_lt hn, List.getElem?_eq_getElem hn]
      exact l.β _ _ (List.getElem?_eq_getElem hn)
    · rw [List.getElem?_eq_none (by simp; omega), List.getElem?_eq_none (by omega)]
  -- the objects of the memory behind
  have key : M'.length = W.M.length ∧ ∀ (n : Nat) (o : O), n < W.M.length → W2.M[n]? = some o → ∃ o', M'[n]? = some o' ∧ ((o' = o ∧ ∀ a, W.β[n]? = some a → OOk K W a o) ∨ frO (frF W2.M W.M.length 3) o = some o') := by
    unfold finM at h
    by_cases e : W2.M.take W.M.length = W.M
    · rw [if_pos e] at h
      cases h
      refine ⟨rfl, fun n o hn ho => ⟨o, ?_, .inl ⟨rfl, fun a ha => ?_⟩⟩⟩
      · rw [← e, List.getElem?_take_of_lt hn]; exact ho
      · exact k.ob n a o ha (by rw [← e, List.getElem?_take_of_lt hn]; exact ho)
    · rw [if_neg e] at h
      obtain ⟨h1, h2⟩ := mapM_some h
      have hl2 : W.M.length ≤ W2.M.length := by rw [← k.len, ← k2.len]; exact hlen
      refine ⟨by rw [h1, List.length_take]; omega, fun n o hn ho => ?_⟩
      obtain ⟨o', q1, q2⟩ := h2 n o (by rw [List.getElem?_take_of_lt hn]; exact ho)
      exact ⟨o', q1, .inr q2⟩
  obtain ⟨hM, hob⟩ := key
  let W3 : Wd := { β := W.β, M := M', H := W2.H, pv := W.pv }
  have hfrz : ∀ a, W2.frz a → W3.frz a := fun a f => by
    refine ⟨fun n hn => ?_, fun hq => f.2 (l.x a hq).1⟩
    have hn' : W.β[n]? = some a := hn
    have hlt : n < W.M.length := by rw [← k.len]; exact (List.getElem?_eq_some_iff.mp hn').1
    obtain ⟨o', q1, q2⟩ := hob n .dead hlt (f.1 n (l.β n a hn'))
    rcases q2 with ⟨rfl, _⟩ | q2
    · exact q1
    · cases q2; exact q1
  have hover : ∀ j, Over K W2 W3 (frF W2.M W.M.length j) := by
    intro j
    induction j with
    | zero =>
      refine ⟨rfl, hfrz, fun n a d hn hd => ?_⟩
      unfold frF at hd
      by_cases hlt : n < W.M.length
      · rw [if_pos hlt] at hd; cases hd
        refine .ref ?_
        show W.β[n]? = some a
        rw [← hβ, List.getElem?_take_of_lt (by rw [k.len]; exact hlt)]; exact hn
      · rw [if_neg hlt] at hd; cases hd
    | succ j ih =>
      refine ⟨rfl, hfrz, fun n a d hn hd => ?_⟩
      unfold frF at hd
      by_cases hlt : n < W.M.length
      · rw [if_pos hlt] at hd; cases hd
        refine .ref ?_
        show W.β[n]? = some a
        rw [← hβ, List.getElem?_take_of_lt (by rw [k.len]; exact hlt)]; exact hn
      · rw [if_neg hlt] at hd
        obtain ⟨o, ho, ok⟩ := k2.at hn
        rw [ho] at hd
        have fz : W3.frz a := by
          refine ⟨fun m hm => ?_, fun hq => k2.pn a (l.x a hq).1 (List.mem_of_getElem? hn)⟩
          have hm' : W.β[m]? = some a := hm
          have hm2 := l.β m a hm'
          have : m = n := (List.getElem?_inj (List.getElem?_eq_some_iff.mp hm2).1 k2.nd).mp (hm2.trans hn.symm)
          subst this
          exact absurd (by rw [← k.len]; exact (List.getElem?_eq_some_iff.mp hm').1) hlt
        cases o with
        | lst ds =>
          simp only at hd
          cases e : substL (frF W2.M W.M.length j) ds with
          | none => rw [e] at hd; cases hd
          | some ds' =>
            rw [e] at hd; cases hd
            obtain ⟨xs, h1, h2⟩ := ok
            exact .lst (.inl h1) fz (rpa_subst ih h2 e)
        | dct t ds =>
          simp only at hd
          cases e : substK (frF W2.M W.M.length j) ds with
          | none => rw [e] at hd; cases hd
          | some ds' =>
            rw [e] at hd; cases hd
            cases t
            · obtain ⟨xs, h1, h2⟩ := ok
              exact .dK (.inl h1) fz (rpk_subst ih h2 e)
            · obtain ⟨xs, kvs, h1, h2, h3⟩ := ok
              exact .dT (.inl h1) fz h2 (rpt_subst ih h3 e)
        | ins C fs => cases hd
        | dead => cases hd
  refine ⟨W3, rfl, rfl, ⟨fun n a h => h, l.t, fun a xs h f => ?_, fun a xs h f => ?_, fun a xs h f => ?_, l.z, fun a h => ⟨h, (l.x a h).2⟩⟩, ⟨?_, k.nd, fun n a o hn ho => ?_, k.pn, fun a h => by
    obtain ⟨u, e⟩ := k.ph a h
    exact ⟨u, (l.x a h).2.trans e⟩, fun a h => ⟨(k2.tb a h).1, (k.tb a h).2⟩, fun a h => ⟨(k2.lm a h).1, (k.lm a h).2⟩⟩, hover⟩
  · exact ⟨(l.l a xs h f).1, hfrz a (l.l a xs h f).2⟩
  · exact ⟨(l.k a xs h f).1, hfrz a (l.k a xs h f).2⟩
  · exact ⟨(l.kt a xs h f).1, hfrz a (l.kt a xs h f).2⟩
  · show W.β.length = M'.length
    rw [hM, k.len]
  · have hn' : W.β[n]? = some a := hn
    have hlt : n < W.M.length := by rw [← k.len]; exact (List.getElem?_eq_some_iff.mp hn').1
    obtain ⟨o2, ho2, ok2⟩ := k2.at (l.β n a hn')
    obtain ⟨o', q1, q2⟩ := hob n o2 hlt ho2
    have eo : o' = o := Option.some.inj (q1.symm.trans ho)
    subst eo
    have ov := hover 3
    have low : ∀ m, m < W.M.length → frF W2.M W.M.length 3 m = some (.ref m) := fun m hm => by unfold frF; rw [if_pos hm]
    have lenβ : W.β.length ≤ W.M.length := Nat.le_of_eq k.len
    have q3 : frO (frF W2.M W.M.length 3) o2 = some o' := by
      rcases q2 with ⟨rfl, ok0⟩ | q2
      · have ok0 := ok0 a hn'
        cases o' with
        | lst ds => obtain ⟨xs, _, r⟩ := ok0; rw [frO, substL_low low lenβ r]; rfl
        | dct t ds =>
          cases t
          · obtain ⟨xs, _, r⟩ := ok0; rw [frO, substK_low low lenβ r]; rfl
          · obtain ⟨xs, kvs, _, _, r⟩ := ok0; rw [frO, substT_low low lenβ r]; rfl
        | ins C fs =>
          obtain ⟨dx, gs, _, _, r⟩ := ok0
          rw [frO, substL_low low lenβ r]
          exact congrArg (fun z => some (O.ins C z)) (zip_self fs)
        | dead => rfl
      · exact q2
    cases o2 with
    | lst ds =>
      rw [frO] at q3
      cases e : substL (frF W2.M W.M.length 3) ds with
      | none => rw [e] at q3; cases q3
      | some ds' =>
        rw [e] at q3; cases q3
        obtain ⟨xs, h1, h2⟩ := ok2
        exact ⟨xs, h1, rpa_subst ov h2 e⟩
    | dct t ds =>
      rw [frO] at q3
      cases e : substK (frF W2.M W.M.length 3) ds with
      | none => rw [e] at q3; cases q3
      | some ds' =>
        rw [e] at q3; cases q3
        cases t
        · obtain ⟨xs, h1, h2⟩ := ok2
          exact ⟨xs, h1, rpk_subst ov h2 e⟩
        · obtain ⟨xs, kvs, h1, h2, h3⟩ := ok2
          exact ⟨xs, kvs, h1, h2, rpt_subst ov h3 e⟩
    | ins C fs =>
      rw [frO] at q3
      cases e : substL (frF W2.M W.M.length 3) (fs.map (·.2)) with
      | none => rw [e] at q3; cases q3
      | some l' =>
        rw [e] at q3; cases q3
        obtain ⟨dx, gs, h1, h2, h3⟩ := ok2
        have r := rpa_subst ov h3 e
        have hl := r.length
        have hl2 : fs.length = l'.length := by
          have := congrArg List.length h2
          simp at this hl
          omega
        refine ⟨dx, gs, h1, ?_, ?_⟩
        · rw [h2, List.map_fst_zip (by simp [hl2])]
        · rw [List.map_snd_zip (by simp [hl2])]; exact r
    | dead => cases q3; exact ok2
end

structure TP where
  P : Program
  w : World
  F : PySem.W.Frag
  mg : Str → Option Value
  base : Heap
  cs : List (Addr × Addr)
  ls : List (Addr × Str)
abbrev TP.K (T : TP) : KP := ⟨T.P, T.w, T.F, T.cs.map (·.2), T.ls⟩
abbrev TP.sc (T : TP) (N : List Str) (sc : Scope) (k : Nat) (Wx : WX) (code : Value) : SC := { P := T.P, w := T.w, F := T.F, mg := T.mg, base := T.base, N := N, sc := sc, k := k, W := Wx, df := true, fnc := fun _ => true, cs := T.cs, code := some code, ls := T.ls, ql := none }
def PostC (T : TP) (W : Wd) (r : Rs D) (Q : VK) (E : XK) : Prop := match r with
  | none => False
  | some (.ok d, M') => ∀ W', Le T.K W W' → Ok T.K W' → W'.M = M' → ∀ v, Rp T.K W' v d → Q v W'.H
  | some (.error x, M') => ∀ W', Le T.K W W' → Ok T.K W' → W'.M = M' → ∀ C, T.mg x = some (.ref C) → E (.ref C) none W'.H
/-- the promise of a def that computes F -/
def SpF (T : TP) (n : Nat) (F : List D → Mo D) : Sp := fun vs H Q E => vs.length = n ∧ ∃ (W : Wd) (ds : List D), Ok T.K W ∧ W.H = H ∧ RpA T.K W vs ds ∧ PostC T W (F ds W.M) Q E
def FnD (T : TP) (k : Nat) (f : Addr) (fd : FuncData) (ps : List Str) (F : List D → Mo D) : Prop := FnOk T.P T.w T.F T.mg T.base (L2N.CX T.P T.w) k f fd ps (SpF T ps.length F)
def startE (N : List Str) (ds : List D) : En := ds.map some ++ List.replicate (N.length - ds.length) none
/-- what a body computes, as a def: what it made is closed -/
noncomputable def fnD (N : List Str) (g : Sn) : List D → Mo D := fun ds M => fnR M (g (startE N ds) M)
/-- .. stays open -/
def fnO (N : List Str) (g : Sn) : List D → Mo D := fun ds M => fnW (g (startE N ds) M)
theorem start_rel {K : KP} {W : Wd} {N : List Str} {vs : List V} {ds : List D} (r : RpA K W vs ds) : StR K W (L2.start N vs) (startE N ds) := by
  have hl := r.length
  refine ⟨by simp [L2.start, startE, hl], fun i d h => ?_⟩
  unfold startE at h
  unfold L2.start
  by_cases hi : i < ds.length
  · rw [List.getElem?_append_left (by simpa using hi)] at h
    rw [List.getElem?_append_left (by simpa [hl] using hi)]
    rw [List.getElem?_map] at h ⊢
    cases e : ds[i]? with
    | none => rw [e] at h; cases h
    | some x =>
      rw [e] at h; cases h
      obtain ⟨v, h1, h2⟩ := r.get e
      exact ⟨v, by rw [h1]; rfl, h2⟩
  · rw [List.getElem?_append_right (by simpa using hi), List.getElem?_replicate] at h
    split at h <;> cases h
theorem inC_def {T : TP} {N : List Str} {qual : Str} {scope : Scope} {f : Addr} {cdv : Value} {A : Around} {outer : List PySem.Env} {s : Shared} {H : Hp} {E : XK} {k : Nat} (hr : Room k (A.deeper (envOfC qual scope s.heap.objs.size f cdv))) :
    InC (T.sc N scope k (fun cls d _ H => E cls d H) cdv) (cxOf (L2N.CX T.P T.w) T.P T.w T.F T.mg T.base N qual scope f cdv A outer s H E) where
  P := rfl
  w := rfl
  K := rfl
  mg := rfl
  base := rfl
  N := rfl
  sc := rfl
  calm := rfl
  room := hr
  takes := L2N.takes_of rfl rfl rfl rfl
  own := fun _ => passes_of rfl
  stk := fun _ => ⟨rfl, rfl⟩
  fn := fun _ _ => rfl
  code := fun v e => Option.some.inj e
  ql := fun q e => by cases e
section
variable {T : TP} {x qual : Str} {prm : Arguments} {body : List Stmt} {scope : Scope} {dvs : List V} {kws : List (Str × V)} {f : Addr} {fd : FuncData} {N ps : List Str} {k : Nat} {g : Sn}
theorem okXc {P : Program} {w : World} {K : PySem.W.Frag} {mg : Str → Option Value} {base : Heap} {sp : Sp} (F : FunD K x qual prm body scope dvs kws f fd) (S : FnScope N ps scope) (len : ∀ vs H Q E, sp vs H Q E → vs.length = ps.length)
    (hbody : ∀ (cdv : Value), fd.code = cdv → ∀ (A : Around) (outer : List PySem.Env) (s : Shared) (H : Hp) (vs : List V) (Q : VK) (E : XK), Room k (A.deeper (envOfC qual scope s.heap.objs.size f cdv)) → sp vs H Q E →
      ∃ t, PSs (cxOf (L2N.CX P w) P w K mg base N qual scope f cdv A outer s H E) body t ∧ t { nx := fun _ H' => Q .non H', rt := Q } (L2.start N vs) H) : FnOk P w K mg base (L2N.CX P w) (k + 1) f fd ps sp := by
  obtain ⟨oc, od, dV, kV, doc, pm, an, cdv, ct, osl, rfl, lk, hcd, _, _⟩ := F.ex
  exact fn_of lk hcd S len fun A outer s H vs Q E hr hsp => hbody cdv rfl A outer s H vs Q E hr hsp
theorem fnd_of (F : FunD T.F x qual prm body scope dvs kws f fd) (Sc : FnScope N ps scope) (hb : ∀ Wx : WX, BX (T.sc N scope k Wx fd.code) body g) : FnD T (k + 1) f fd ps (fnD N g) := by
  refine okXc F Sc (fun vs H Q E h => h.1) fun cdv hcd A outer s H vs Q E hr hsp => ?_
  subst hcd
  obtain ⟨hl, W, ds, ok, rfl, r, post⟩ := hsp
  obtain ⟨t, t1, t2⟩ := (hb fun cls d _ H => E cls d H).ex
  refine ⟨t, t1 _ (inC_def hr), t2 W _ (startE N ds) _ ok (start_rel r) ?_⟩
  have post : PostC T W (fnR W.M (g (startE N ds) W.M)) Q E := post
  have fin_run : ∀ {M : Mem} {d : D} {W2 : Wd}, PostC T W (fin W.M M d) Q E → Le T.K W W2 → Ok T.K W2 → W2.M = M → ∀ v, Rp T.K W2 v d → Q v W2.H := by
    intro M d W2 hp l k2 hM v rv
    subst hM
    unfold fin at hp
    cases e1 : subst (frF W2.M W.M.length 3) d with
    | none => rw [e1] at hp; exact hp.elim
    | some d' =>
      cases e2 : finM W.M W2.M with
      | none => rw [e1, e2] at hp; exact hp.elim
      | some M' =>
        rw [e1, e2] at hp
        obtain ⟨W3, rfl, h3, l3, k3, ov⟩ := finM_run ok k2 l e2
        have z := hp W3 l3 k3 rfl v (rp_subst (ov 3) rv e1)
        rw [h3] at z
        exact z
  cases e : g (startE N ds) W.M with
  | none => rw [e] at post; exact post.elim
  | some p =>
    obtain ⟨fl, M⟩ := p
    rw [e] at post
    cases fl with
    | nx ρ => exact fun W2 l k2 hM σ st => fin_run (d := .non) post l k2 hM _ .non
    | ret d => exact fun W2 l k2 hM v rv => fin_run post l k2 hM v rv
    | brk ρ => exact post.elim
    | cnt ρ => exact post.elim
    | exc y ρ =>
      intro W2 l k2 hM σ st C hC
      subst hM
      have post : PostC T W ((finM W.M W2.M).map fun M' => (.error y, M')) Q E := post
      cases e2 : finM W.M W2.M with
      | none => rw [e2] at post; exact post.elim
      | some M' =>
        rw [e2] at post
        obtain ⟨W3, rfl, h3, l3, k3, ov⟩ := finM_run ok k2 l e2
        have z := post W3 l3 k3 rfl C hC
        rw [h3] at z
        exact z
theorem fno_of (F : FunD T.F x qual prm body scope dvs kws f fd) (Sc : FnScope N ps scope) (hb : ∀ Wx : WX, BX (T.sc N scope k Wx fd.code) body g) : FnD T (k + 1) f fd ps (fnO N g) := by
  refine okXc F Sc (fun vs H Q E h => h.1) fun cdv hcd A outer s H vs Q E hr hsp => ?_
  subst hcd
  obtain ⟨hl, W, ds, ok, rfl, r, post⟩ := hsp
  obtain ⟨t, t1, t2⟩ := (hb fun cls d _ H => E cls d H).ex
  refine ⟨t, t1 _ (inC_def hr), t2 W _ (startE N ds) _ ok (start_rel r) ?_⟩
  have post : PostC T W (fnW (g (startE N ds) W.M)) Q E := post
  cases e : g (startE N ds) W.M with
  | none => rw [e] at post; exact post.elim
  | some p =>
    obtain ⟨fl, M⟩ := p
    rw [e] at post
    cases fl with
    | nx ρ => exact fun W2 l k2 hM σ st => post W2 l k2 hM _ .non
    | ret d => exact fun W2 l k2 hM v rv => post W2 l k2 hM v rv
    | brk ρ => exact post.elim
    | cnt ρ => exact post.elim
    | exc y ρ => exact fun W2 l k2 hM σ st C hC => post W2 l k2 hM C hC
/-- another function that is the same wherever it comes to something -/
theorem FnD.mono {j : Nat} {F : List D → Mo D} (h : FnD T k f fd ps F) (hk : k ≤ j) : FnD T j f fd ps F := FnOk.mono h hk
theorem FnD.imp {F G : List D → Mo D} (h : FnD T k f fd ps F) (hi : ∀ ds M r, G ds M = some r → ds.length = ps.length → F ds M = some r) : FnD T k f fd ps G := by
  refine FnOk.imp h fun vs H Q E hsp => ?_
  obtain ⟨hl, W, ds, ok, hH, r, post⟩ := hsp
  refine ⟨hl, W, ds, ok, hH, r, ?_⟩
  cases e : G ds W.M with
  | none => rw [e] at post; exact post.elim
  | some p => rw [hi ds W.M p e (by rw [← r.length, hl]), ← e]; exact post
end
section
variable {S : SC}
theorem InC.fnOk {X : Cx} (c : InC S X) {k : Nat} {f : Addr} {fd : FuncData} {ps : List Str} {sp : Sp} (F : FnOk S.P S.w S.F S.mg S.base (L2N.CX S.P S.w) k f fd ps sp) : FnOk X.prog X.w X.K X.mg X.base (L2N.CX X.prog X.w) k f fd ps sp := by
  rw [c.P, c.w, c.K, c.mg, c.base]; exact F
abbrev SC.tp (S : SC) : TP := ⟨S.P, S.w, S.F, S.mg, S.base, S.cs, S.ls⟩
theorem sem_call {t : TA} {fa : En → Mo (List D)} {F : List D → Mo D} {n : Nat} (ha : SemA S t fa) (hlen : ∀ ρ M ds M', fa ρ M = some (.ok ds, M') → ds.length = n) : SemE S (tCallSD (SpF S.tp n F) [] (WE S.W) t) (fun ρ => .bnd (fa ρ) F) := by
  intro W σ ρ Q k st h
  refine ha W σ ρ _ k st ?_
  have h0 := Post.bnd h
  cases e : fa ρ W.M with
  | none => rw [e] at h0; exact h0
  | some p =>
    obtain ⟨r, M1⟩ := p
    rw [e] at h0
    cases r with
    | error x => exact h0
    | ok ds =>
      intro W1 l1 k1 hM vs rvs
      subst hM
      have q : Post S W1 σ (F ds W1.M) (PV S Q) := h0 W1 l1 k1 rfl
      refine ⟨by rw [List.append_nil, rvs.length]; exact hlen _ _ _ _ e, W1, ds, k1, rfl, by rw [List.append_nil]; exact rvs, ?_⟩
      cases e2 : F ds W1.M with
      | none => rw [e2] at q; exact q
      | some p2 =>
        obtain ⟨r2, M2⟩ := p2
        rw [e2] at q
        cases r2 with
        | ok d => exact q
        | error x => exact q
theorem ex_call {x : Str} {p pos : Pos} {e : Expr} {es : List Expr} {k : Nat} {f : Addr} {fd : FuncData} {ps : List Str} {F : List D → Mo D} {fa : En → Mo (List D)} (hF : FnD S.tp k f fd ps F) (hk : k ≤ S.k) (hg : Gs S x) (hm : S.mg x = some (.ref f)) (hkp : PySem.W.keepIn S.F (.ref f) = true) (hb : Binds S.F fd ps [])
    (ha : AX S (e :: es) fa) (hlen : ∀ ρ M ds M', fa ρ M = some (.ok ds, M') → ds.length = ps.length) (hdb : (x == ("__debug__" : Str)) = false := by decide) (he : ∀ env : PySem.Env, starEach (e :: es) env = (false, eval e env) :: starEach es env := by intro; rfl) (hpl : ∀ env : PySem.Env, (backTo pos (starEach es env)).any (·.1) = false := by intro; rfl) :
    EX S (.Call (.Name x p) (e :: es) [] pos) (fun ρ => .bnd (fa ρ) F) := by
  obtain ⟨ta, a1, a2⟩ := ha.ex
  refine ⟨_, fun X c => pe_callSD (c.fnOk hF) (c.room.mono hk) (gl_of c hg) (by rw [c.mg]; exact hm) (by rw [c.K]; exact hkp) (by rw [c.K]; exact hb) .nil (fun σ => L2N.passAt c.takes σ) (a1 X c) hdb (he X.env) (hpl X.env), sem_call a2 hlen⟩
end
theorem len_nil {ρ : En} {M M' : Mem} {ds : List D} (h : (Mo.ret ([] : List D)) M = some (.ok ds, M')) : ds.length = 0 := by cases h; rfl
theorem len_cons {f : Mo D} {g : Mo (List D)} {n : Nat} (hg : ∀ M ds M', g M = some (.ok ds, M') → ds.length = n) : ∀ M ds M', (Mo.bnd f fun d => .bnd g fun ds => .ret (d :: ds)) M = some (.ok ds, M') → ds.length = n + 1 := by
  intro M ds M' h
  unfold Mo.bnd at h
  cases e : f M with
  | none => rw [e] at h; cases h
  | some p =>
    obtain ⟨r, M1⟩ := p
    rw [e] at h
    cases r with
    | error x => cases h
    | ok d =>
      simp only at h
      cases e2 : g M1 with
      | none => rw [e2] at h; cases h
      | some p2 =>
        obtain ⟨r2, M2⟩ := p2
        rw [e2] at h
        cases r2 with
        | error x => cases h
        | ok ds2 => cases h; simp [hg _ _ _ e2]
end DL
namespace DL
open PySem PySem.Spec PyProof.Rows L2

/-- what a reference to a changing list or dict holds -/
def res (M : Mem) : D → D
  | .ref n => match M[n]? with
    | some (.lst l) => .lst l
    | some (.dct t l) => .dct t l
    | _ => .ref n
  | .tpn l => .tup l
  | d => d
mutual
def py : D → Option PyData
  | .non => some .none
  | .bl b => some (.bool b)
  | .int i => some (.int i)
  | .str x => some (.str x)
  | .tup l => (pyL l).map .tuple
  | .lst l => (pyL l).map .list
  | .tpn l => (pyL l).map .tuple
  | _ => none
def pyL : List D → Option (List PyData)
  | [] => some []
  | d :: r => match py d, pyL r with
    | some x, some xs => some (x :: xs)
    | _, _ => none
end
section
variable {K : KP} {W : Wd}
mutual
theorem rp_dp : ∀ {v : V} {d : D} {p : PyData}, Rp K W v d → py d = some p → Dp K.K W.H v p
  | _, _, _, .non, h => by cases h; exact .non
  | _, _, _, .bl b, h => by cases h; exact .bl b
  | _, _, _, .int i, h => by cases h; exact .int i
  | _, _, _, .str x, h => by cases h; exact .str x
  | _, _, _, .tup (ds := ds) h1 r, h => by
    rw [py] at h
    cases e : pyL ds with
    | none => rw [e] at h; cases h
    | some ps => rw [e] at h; cases h; exact .tup h1 (rpa_dp r e)
  | _, _, _, .lst (ds := ds) h1 f1 r, h => by
    rw [py] at h
    cases e : pyL ds with
    | none => rw [e] at h; cases h
    | some ps => rw [e] at h; cases h; exact .lst (.inl h1) (rpa_dp r e)
  | _, _, _, .lstK (ds := ds) h1 r, h => by
    rw [py] at h
    cases e : pyL ds with
    | none => rw [e] at h; cases h
    | some ps => rw [e] at h; cases h; exact .lst (.inr h1) (rpa_dp r e)
  | _, _, _, .dK _ _ _, h => by simp [py] at h
  | _, _, _, .dT _ _ _ _, h => by simp [py] at h
  | _, _, _, .ref _, h => by simp [py] at h
  | _, _, _, .obj _, h => by simp [py] at h
  | _, _, _, .ty _, h => by simp [py] at h
  | _, _, _, .set _, h => by simp [py] at h
  | _, _, _, .seti _, h => by simp [py] at h
  | _, _, _, .tpn (ds := ds) h1 n1 r, h => by
    rw [py] at h
    cases e : pyL ds with
    | none => rw [e] at h; cases h
    | some ps => rw [e] at h; cases h; exact .tup (.inl (.inr ⟨_, h1⟩)) (rpa_dp r e)
theorem rpa_dp : ∀ {v : List V} {d : List D} {p : List PyData}, RpA K W v d → pyL d = some p → DpAll K.K W.H v p
  | _, _, _, .nil, h => by cases h; exact .nil
  | _, _, _, .cons (d := d) (ds := ds) h1 h2, h => by
    rw [pyL] at h
    cases e : py d with
    | none => rw [e] at h; cases h
    | some d1 =>
      cases e2 : pyL ds with
      | none => rw [e, e2] at h; cases h
      | some ds1 => rw [e, e2] at h; cases h; exact .cons (rp_dp h1 e) (rpa_dp h2 e2)
end
theorem res_dp (k : Ok K W) {v : V} {d : D} {p : PyData} (r : Rp K W v d) (h : py (res W.M d) = some p) : Dp K.K W.H v p := by
  cases d with
  | ref n =>
    cases r with
    | ref hb =>
      obtain ⟨o, ho, ok⟩ := k.at hb
      simp only [res, ho] at h
      cases o with
      | lst l =>
        obtain ⟨xs, h1, h2⟩ := ok
        rw [py] at h
        cases e : pyL l with
        | none => rw [e] at h; cases h
        | some ps => rw [e] at h; cases h; exact .lst (.inl (.inl h1)) (rpa_dp h2 e)
      | dct t l => simp [py] at h
      | ins C fs => simp [py] at h
      | dead => simp [py] at h
  | _ => exact rp_dp r h
/-- a list, frozen or changing -/
theorem rd_lst (k : Ok K W) {v : V} {d : D} {l : List D} (r : Rp K W v d) (h : res W.M d = .lst l) : ∃ a xs, v = .ref a ∧ SqL K.K W.H a xs ∧ RpA K W xs l := by
  cases d with
  | ref n =>
    cases r with
    | ref hb =>
      obtain ⟨o, ho, ok⟩ := k.at hb
      simp only [res, ho] at h
      cases o with
      | lst l' =>
        cases h
        obtain ⟨xs, h1, h2⟩ := ok
        exact ⟨_, xs, rfl, .inl (.inl h1), h2⟩
      | dct t l => cases h
      | ins C fs => cases h
      | dead => cases h
  | lst l' =>
    cases h
    cases r with
    | lst h1 f r => exact ⟨_, _, rfl, .inl h1, r⟩
    | lstK h1 r => exact ⟨_, _, rfl, .inr h1, r⟩
  | _ => cases h
end
def rCatR (K : PySem.W.Frag) : R2 := fun x y H Q => ∃ l b xs zs, x = .ref l ∧ y = .ref b ∧ SqL K H l xs ∧ SqL K H b zs ∧ xs.length + zs.length ≤ sizeLine ∧ ∀ p, H p = none → Q (.ref p) (upd H p (.lst (xs ++ zs)))
theorem add_plain {prog : Program} {w : World} {A : Around} {E : Value → Shared → Prop} {s : Shared} {l b : Addr} {vs ws : Array Value} {Q : Value → Shared → Prop} (hl : PlainL s.heap l vs) (hb : PlainL s.heap b ws) (hsz : vs.size + ws.size ≤ sizeLine)
    (h : Q (.ref s.heap.objs.size) { s with heap := s.heap.push { cls := .type "list", data := .seq (vs ++ ws) } }) : wpAny (model prog w) A (binaryOp .Add (.ref l) (.ref b)) Q E s := by
  obtain ⟨⟨cls, dd, data, sl⟩, n, ho, hc, hx, hd⟩ := hl
  obtain ⟨⟨cls2, dd2, data2, sl2⟩, n2, ho2, hc2, hx2, hd2⟩ := hb
  simp only at hc hd hc2 hd2 hx hx2
  subst hc hd hc2 hd2 hx hx2
  exact concat_meets ⟨_, ho, rfl⟩ ⟨_, ho2, rfl⟩ noFill_list_add seq_list_add PySem.F.slot_list_add PySem.F.entry_list_add (PySem.F.args_list_add_2 _ _) (list_addW l b vs ws n n2 none none sl sl2 hsz) ⟨ho, ho2, h⟩
theorem op_catR {X : Cx} : OpR X (binaryOp .Add) (rCatR X.K) := by
  intro pins s σ H x y v u Q I rx ry h
  obtain ⟨l, b, xs, zs, rfl, rfl, hH, hB, hz, q⟩ := h
  cases rx
  cases ry
  obtain ⟨its, r, e, z⟩ := I.list hH
  obtain ⟨its2, r2, e2, z2⟩ := I.list hB
  have hl := r.length
  have hl2 := r2.length
  refine add_plain e e2 (by rw [List.size_toArray, List.size_toArray]; omega) ?_
  rw [show its.toArray ++ its2.toArray = (its ++ its2).toArray by simp]
  exact ⟨.ref _, _, I.lnew (t' := s.toks) (r.append r2) (by rw [List.length_append]; omega), rfl, q _ I.fresh⟩
def addD (a b : D) : Mo D := fun M => match res M a, res M b with
  | .int i, .int j => some (.ok (.int (i + j)), M)
  | .str i, .str j => cond (lenOk (i.length + j.length)) (some (.ok (.str (i ++ j)), M)) none
  | .tup xs, .tup ys => cond (lenOk (xs.length + ys.length)) (some (.ok (.tup (xs ++ ys)), M)) none
  | .lst xs, .lst ys => cond (lenOk (xs.length + ys.length)) (some (.ok (.lst (xs ++ ys)), M)) none
  | _, _ => none
section
variable {S : SC} {W : Wd} {σ : L2.St}
theorem post_ok {α : Type} {a : α} {Q : α → Wd → Prop} (k : Ok S.K W) (h : Post S W σ (some (.ok a, W.M)) Q) : Q a W := h W (Le.refl _ _) k rfl
theorem post_condO {α : Type} {b : Bool} {r : Rs α} {Q : α → Wd → Prop} (h : Post S W σ (cond b r none) Q) : b = true ∧ Post S W σ r Q := by
  cases b with
  | true => exact ⟨rfl, h⟩
  | false => exact h.elim
theorem res_int {K : KP} {v : V} {d : D} {M : Mem} {i : Int} (r : Rp K W v d) (h : res M d = .int i) : v = .int i := by
  cases d with
  | ref n => simp only [res] at h; split at h <;> cases h
  | int j => cases h; exact rp_int r
  | _ => cases h
theorem res_str {K : KP} {v : V} {d : D} {M : Mem} {i : Str} (r : Rp K W v d) (h : res M d = .str i) : v = .str i := by
  cases d with
  | ref n => simp only [res] at h; split at h <;> cases h
  | str j => cases h; exact rp_str r
  | _ => cases h
theorem res_tup {K : KP} {v : V} {d : D} {M : Mem} {l : List D} (r : Rp K W v d) (h : res M d = .tup l) : ∃ a xs, v = .ref a ∧ SqT K.K W.H a xs ∧ RpA K W xs l := by
  cases d with
  | ref n => simp only [res] at h; split at h <;> cases h
  | tup l => cases h; cases r with | tup h1 r => exact ⟨_, _, rfl, h1, r⟩
  | tpn l => cases h; cases r with | tpn h1 n1 r => exact ⟨_, _, rfl, .inl (.inr ⟨_, h1⟩), r⟩
  | _ => cases h

def rAddA (K : PySem.W.Frag) : R2 := fun x y H Q => rI0 (fun i j => .int (i + j)) x y H Q ∨ (∃ i j, x = .str i ∧ y = .str j ∧ i.length + j.length ≤ sizeLine ∧ Q (.str (i ++ j)) H) ∨ rCatA K x y H Q ∨ rCatR K x y H Q
theorem ox_add : OX S (binaryOp .Add) addD := by
  refine ⟨⟨rAddA S.F, fun X c => by have z := (op_add (X := X)).or (op_add_str.or ((op_catA (X := X)).or op_catR)); rw [c.K] at z; exact z, fun W σ x y a b Q k rx ry h => ?_⟩⟩
  unfold addD at h
  split at h
  · rename_i i j e1 e2
    exact .inl ⟨i, j, res_int rx e1, res_int ry e2, post_ok k h _ (.int _)⟩
  · rename_i i j e1 e2
    obtain ⟨h1, h2⟩ := post_condO h
    exact .inr (.inl ⟨i, j, res_str rx e1, res_str ry e2, of_decide_eq_true h1, post_ok k h2 _ (.str _)⟩)
  · rename_i l m e1 e2
    obtain ⟨a1, xs, rfl, s1, r1⟩ := res_tup rx e1
    obtain ⟨a2, ys, rfl, s2, r2⟩ := res_tup ry e2
    obtain ⟨h1, h2⟩ := post_condO h
    refine .inr (.inr (.inl ⟨a1, a2, xs, ys, rfl, rfl, s1, s2, by rw [r1.length, r2.length]; exact of_decide_eq_true h1, fun e => ?_, fun _ e => ?_, fun e1 e2 p hp => ?_⟩))
    · subst e; cases r1
      exact post_ok k h2 _ (.tup s2 (by simpa using r2))
    · subst e; cases r2
      exact post_ok k h2 _ (.tup s1 (by simpa using r1))
    · exact h2 (W.lay p (.tup (xs ++ ys))) (le_lay k hp) (k.lay hp) rfl _ (.tup (.inl (.inl upd_same)) ((r1.append r2).mono (le_lay k hp)))
  · rename_i l m e1 e2
    obtain ⟨a1, xs, rfl, s1, r1⟩ := rd_lst k rx e1
    obtain ⟨a2, ys, rfl, s2, r2⟩ := rd_lst k ry e2
    obtain ⟨h1, h2⟩ := post_condO h
    refine .inr (.inr (.inr ⟨a1, a2, xs, ys, rfl, rfl, s1, s2, by rw [r1.length, r2.length]; exact of_decide_eq_true h1, fun p hp => ?_⟩))
    exact h2 (W.lay p (.lst (xs ++ ys))) (le_lay k hp) (k.lay hp) rfl _ (.lst (.inl upd_same) (k.frz_new hp) ((r1.append r2).mono (le_lay k hp)))
  · exact h.elim
def intOp (c : Int → Int → Bool) (g : Int → Int → D) (a b : D) : Mo D := match a, b with
  | .int i, .int j => cond (c i j) (.ret (g i j)) .stuck
  | _, _ => .stuck
theorem intOp_run {c : Int → Int → Bool} {g : Int → Int → D} {x y : V} {a b : D} {Q : VK} (k : Ok S.K W) (rx : Rp S.K W x a) (ry : Rp S.K W y b) (h : Post S W σ (intOp c g a b W.M) (PV S Q)) :
    ∃ i j, x = .int i ∧ y = .int j ∧ c i j = true ∧ PV S Q (g i j) W := by
  unfold intOp at h
  split at h
  · rename_i i j
    obtain ⟨h1, h2⟩ := post_cond h
    exact ⟨i, j, rp_int rx, rp_int ry, h1, Post.ret k h2⟩
  · exact (show False from h).elim
def subD (a b : D) : Mo D := intOp (fun _ _ => true) (fun i j => .int (i - j)) a b
theorem ox_sub : OX S (binaryOp .Sub) subD := ⟨⟨_, fun X c => op_sub, fun W σ x y a b Q k rx ry h => by
  obtain ⟨i, j, h1, h2, _, q⟩ := intOp_run k rx ry h
  exact ⟨i, j, h1, h2, q _ (.int _)⟩⟩⟩
def mulOk (i j : Int) : Bool := decide (-(2 ^ 64) < i ∧ i < 2 ^ 64) || decide (-(2 ^ 64) < j ∧ j < 2 ^ 64) || decide (i.natAbs.log2 + j.natAbs.log2 < 1000000)
/-- a product; of a tuple and an int, a list and an int -/
def mulD (a b : D) : Mo D := match a, b with
  | .int i, .int j => cond (mulOk i j) (.ret (.int (i * j))) .stuck
  | _, _ => .stuck
theorem ox_mul : OX S (binaryOp .Mult) mulD := by
  refine ⟨⟨_, fun X c => (op_mul (X := X)).or op_mulW, fun W σ x y a b Q k rx ry h => ?_⟩⟩
  unfold mulD at h
  split at h
  · rename_i i j
    obtain ⟨h1, h2⟩ := post_cond h
    have q := Post.ret k h2 _ (.int _)
    unfold mulOk at h1
    simp only [Bool.or_eq_true, decide_eq_true_eq] at h1
    rcases h1 with (h1 | h1) | h1
    · exact .inl ⟨i, j, rp_int rx, rp_int ry, .inl h1, q⟩
    · exact .inl ⟨i, j, rp_int rx, rp_int ry, .inr h1, q⟩
    · exact .inr ⟨i, j, rp_int rx, rp_int ry, h1, q⟩
  · exact (show False from h).elim
def fdivOk (j : Int) : Bool := decide (j ≠ 0 ∧ j.natAbs < 1073741824) || decide (0 < j ∧ j.natAbs.log2 < 9000)
def fdivD (a b : D) : Mo D := intOp (fun _ j => fdivOk j) (fun i j => .int (i.fdiv j)) a b
theorem ox_fdiv : OX S (binaryOp .FloorDiv) fdivD := by
  refine ⟨⟨_, fun X c => (op_fdivN (X := X)).or op_fdivW, fun W σ x y a b Q k rx ry h => ?_⟩⟩
  obtain ⟨i, j, e1, e2, h1, q⟩ := intOp_run k rx ry h
  have q := q _ (.int _)
  unfold fdivOk at h1
  simp only [Bool.or_eq_true, decide_eq_true_eq] at h1
  rcases h1 with h1 | h1
  · exact .inl ⟨i, j, e1, e2, h1, q⟩
  · refine .inr ⟨i, j, e1, e2, h1, ?_⟩
    rw [Int.fdiv_eq_ediv_of_nonneg i (by omega)] at q
    exact q
def modD (a b : D) : Mo D := intOp (fun _ j => decide (j ≠ 0)) (fun i j => .int (i.fmod j)) a b
theorem ox_mod : OX S (binaryOp .Mod) modD := ⟨⟨_, fun X c => op_modN, fun W σ x y a b Q k rx ry h => by
  obtain ⟨i, j, h1, h2, c, q⟩ := intOp_run k rx ry h
  exact ⟨i, j, h1, h2, of_decide_eq_true c, q _ (.int _)⟩⟩⟩
def powD (a b : D) : Mo D := intOp (fun i j => decide (0 ≤ j ∧ j ≤ 1000000 ∧ i.natAbs < 2 ^ 64)) (fun i j => .int (i ^ j.toNat)) a b
theorem ox_pow : OX S (binaryOp .Pow) powD := ⟨⟨_, fun X c => op_pow, fun W σ x y a b Q k rx ry h => by
  obtain ⟨i, j, h1, h2, c, q⟩ := intOp_run k rx ry h
  exact ⟨i, j, h1, h2, (of_decide_eq_true c : 0 ≤ j ∧ j ≤ 1000000 ∧ i.natAbs < 2 ^ 64), q _ (.int _)⟩⟩⟩
def negD (a : D) : Mo D := match a with
  | .int i => .ret (.int (-i))
  | _ => .stuck
theorem ux_neg : UX S (unaryOp .USub) negD := by
  refine ⟨⟨_, fun X c => un_neg, fun W σ x a Q k rx h => ?_⟩⟩
  unfold negD at h
  split at h
  · rename_i i
    exact ⟨i, rp_int rx, Post.ret k h _ (.int _)⟩
  · exact (show False from h).elim
theorem ip_addX : IpX S .Add (intOp (fun _ _ => true) fun i j => .int (i + j)) := ⟨⟨_, fun X c => ip_add, fun W σ x y a b Q k rx ry h => by
  obtain ⟨i, j, h1, h2, _, q⟩ := intOp_run k rx ry h
  exact ⟨i, j, h1, h2, q _ (.int _)⟩⟩⟩
theorem ip_subX : IpX S .Sub (intOp (fun _ _ => true) fun i j => .int (i - j)) := ⟨⟨_, fun X c => ip_sub, fun W σ x y a b Q k rx ry h => by
  obtain ⟨i, j, h1, h2, _, q⟩ := intOp_run k rx ry h
  exact ⟨i, j, h1, h2, q _ (.int _)⟩⟩⟩

def eqB (M : Mem) (a b : D) : Option Bool := match py (res M a), py (res M b) with
  | some x, some y => if SeqAt.shaped x = true ∧ SeqAt.shaped y = true then some (PyData.eqv x y) else none
  | _, _ => none
def eqD (a b : D) : Mo D := fun M => match eqB M a b with
  | some c => some (.ok (.bl c), M)
  | none => none
def neD (a b : D) : Mo D := fun M => match eqB M a b with
  | some c => some (.ok (.bl (!c)), M)
  | none => none
theorem eqB_run {K : KP} {x y : V} {a b : D} {c : Bool} (k : Ok K W) (rx : Rp K W x a) (ry : Rp K W y b) (h : eqB W.M a b = some c) :
    ∃ d e, Dp K.K W.H x d ∧ Dp K.K W.H y e ∧ SeqAt.shaped d = true ∧ SeqAt.shaped e = true ∧ PyData.eqv d e = c := by
  unfold eqB at h
  split at h
  · rename_i d e e1 e2
    split at h
    · rename_i hs
      cases h
      exact ⟨d, e, res_dp k rx e1, res_dp k ry e2, hs.1, hs.2, rfl⟩
    · cases h
  · cases h
theorem hu_of' {X : Cx} (c : InC S X) : X.A.units + 65 < cLine := by have z := c.room.un; omega
theorem ox_eq : OX S (compareOp .Eq) eqD := by
  refine ⟨⟨rEqD S.F, fun X c => by have z := op_eqD (X := X) (by have z := hu_of' c; omega); rw [c.K] at z; exact z, fun W σ x y a b Q k rx ry h => ?_⟩⟩
  unfold eqD at h
  cases e : eqB W.M a b with
  | none => rw [e] at h; exact h.elim
  | some c =>
    rw [e] at h
    obtain ⟨d, e, h1, h2, h3, h4, h5⟩ := eqB_run k rx ry e
    exact ⟨d, e, h1, h2, h3, h4, by rw [h5]; exact post_ok k h _ (.bl c)⟩
theorem ox_ne : OX S (compareOp .NotEq) neD := by
  refine ⟨⟨rNeD S.F, fun X c => by have z := op_neD (X := X) (by have z := hu_of' c; omega); rw [c.K] at z; exact z, fun W σ x y a b Q k rx ry h => ?_⟩⟩
  unfold neD at h
  cases e : eqB W.M a b with
  | none => rw [e] at h; exact h.elim
  | some c =>
    rw [e] at h
    obtain ⟨d, e, h1, h2, h3, h4, h5⟩ := eqB_run k rx ry e
    exact ⟨d, e, h1, h2, h3, h4, by rw [h5]; exact post_ok k h _ (.bl (!c))⟩
/-- is: with None, of two bools -/
def isD (a b : D) : Mo D := match a, b with
  | .bl x, .bl y => .ret (.bl (decide (x = y)))
  | .non, .non => .ret (.bl true)
  | .bl _, .non | .int _, .non | .str _, .non | .tup _, .non | .lst _, .non | .dct _ _, .non | .ref _, .non | .obj _, .non | .ty _, .non => .ret (.bl false)
  | _, _ => .stuck
def isnD (a b : D) : Mo D := .bnd (.bnd (isD a b) boolD) fun c => .ret (.bl (!c))
theorem isD_run {x y : V} {a b : D} {Q : D → Wd → Prop} (k : Ok S.K W) (rx : Rp S.K W x a) (ry : Rp S.K W y b) (h : Post S W σ (isD a b W.M) Q) :
    (∃ p q, x = .bl p ∧ y = .bl q ∧ Q (.bl (decide (p = q))) W) ∨ (y = .non ∧ Q (.bl (decide (x = .non))) W) := by
  unfold isD at h
  split at h
  · rename_i p q
    exact .inl ⟨p, q, rp_bl rx, rp_bl ry, Post.ret k h⟩
  all_goals first
    | (rw [rp_non ry]
       refine .inr ⟨rfl, ?_⟩
       cases rx <;> exact Post.ret k h)
    | exact (show False from h).elim
theorem ox_is : OX S (compareOp .Is) isD := by
  refine ⟨⟨_, fun X c => (op_is_bl (X := X)).or op_isN, fun W σ x y a b Q k rx ry h => ?_⟩⟩
  rcases isD_run k rx ry h with ⟨p, q, e1, e2, z⟩ | ⟨e, z⟩
  · exact .inl ⟨p, q, e1, e2, z _ (.bl _)⟩
  · exact .inr ⟨e, z _ (.bl _)⟩
theorem ox_isn : OX S (compareOp .IsNot) isnD := by
  refine ⟨⟨_, fun X c => (op_isnot_bl (X := X)).or op_notN, fun W σ x y a b Q k rx ry h => ?_⟩⟩
  rcases isD_run k rx ry (Post.bnd (Post.bnd h)) with ⟨p, q, e1, e2, z⟩ | ⟨e, z⟩
  · exact .inl ⟨p, q, e1, e2, Post.ret k (Post.ret k z) _ (.bl _)⟩
  · exact .inr ⟨e, Post.ret k (Post.ret k z) _ (.bl _)⟩
def rLtA (K : PySem.W.Frag) : R2 := fun x y H Q => ∃ d e, Dp K H x d ∧ Dp K H y e ∧ PySem.W.alike d e = true ∧ d ≠ .none ∧ d.depth ≤ 64 ∧ Q (.bl (PySem.W.dataLt d e)) H
theorem op_ltA {X : Cx} (hu : X.A.units + 65 < cLine) : OpR X (compareOp .Lt) (rLtA X.K) := by
  intro pins s σ H x y v u Q I rx ry h
  obtain ⟨d, e, hd, he, al, nn, dd, q⟩ := h
  obtain ⟨as, r1⟩ := Dp.reads I d x v hd rx
  obtain ⟨bs, r2⟩ := Dp.reads I e y u he ry
  exact PySem.W.rcLt_alike d e X.A s v u as bs r1 r2 al nn (by have := Nat.min_le_left d.depth e.depth; omega) X.prog X.w X.xe _ ⟨.bl _, H, I, rfl, q⟩
def ltD (a b : D) : Mo D := fun M => match py (res M a), py (res M b) with
  | some d, some e => if PySem.W.alike d e = true ∧ d.depth ≤ 64 then (match d with
    | .none => none
    | .int i => match e with
      | .int j => some (.ok (.bl (decide (i < j))), M)
      | _ => none
    | d => some (.ok (.bl (PySem.W.dataLt d e)), M)) else none
  | _, _ => none
theorem ox_lt : OX S (compareOp .Lt) ltD := by
  refine ⟨⟨rLtA S.F, fun X c => by have z := op_ltA (X := X) (hu_of' c); rw [c.K] at z; exact z, fun W σ x y a b Q k rx ry h => ?_⟩⟩
  unfold ltD at h
  split at h
  · rename_i d e e1 e2
    split at h
    · rename_i hs
      have z1 := res_dp k rx e1
      have z2 := res_dp k ry e2
      split at h
      · exact h.elim
      · rename_i i
        split at h
        · rename_i j
          refine ⟨_, _, z1, z2, hs.1, (by intro q; cases q), hs.2, ?_⟩
          rw [PySem.W.dataLt_int]
          exact post_ok k h _ (.bl _)
        · exact h.elim
      · rename_i nn ni
        exact ⟨_, _, z1, z2, hs.1, nn, hs.2, post_ok k h _ (.bl _)⟩
    · exact h.elim
  · exact h.elim
theorem ox_ii {op : CmpOp} {p : Int → Int → Bool} (h : ∀ X : Cx, OpR X (compareOp op) (rI0 fun i j => .bl (p i j))) : OX S (compareOp op) (intOp (fun _ _ => true) fun i j => .bl (p i j)) := ⟨⟨_, fun X c => h X, fun W σ x y a b Q k rx ry h => by
  obtain ⟨i, j, h1, h2, _, q⟩ := intOp_run k rx ry h
  exact ⟨i, j, h1, h2, q _ (.bl _)⟩⟩⟩
def leD : D → D → Mo D := intOp (fun _ _ => true) fun i j => .bl (decide (i ≤ j))
def gtD : D → D → Mo D := intOp (fun _ _ => true) fun i j => .bl (decide (j < i))
def geD : D → D → Mo D := intOp (fun _ _ => true) fun i j => .bl (decide (j ≤ i))
theorem ox_le : OX S (compareOp .LtE) leD := ox_ii fun X => op_le
theorem ox_gt : OX S (compareOp .Gt) gtD := ox_ii fun X => op_gt
theorem ox_ge : OX S (compareOp .GtE) geD := ox_ii fun X => op_ge
end
end DL
namespace DL
open PySem PySem.Spec PyProof.Rows L2
section
variable {S : SC} {W : Wd} {σ : L2.St}
def arg1 (g : D → Mo D) : List D → Mo D
  | [a] => g a
  | _ => .stuck
theorem arg1_run {g : D → Mo D} {vs : List V} {ds : List D} {Q : VK} (r : RpA S.K W vs ds) (h : Post S W σ (arg1 g ds W.M) (PV S Q)) : ∃ v d, vs = [v] ∧ Rp S.K W v d ∧ Post S W σ (g d W.M) (PV S Q) := by
  match ds, r, h with
  | [], _, h => exact (show False from h).elim
  | [d], .cons rv .nil, h => exact ⟨_, d, rfl, rv, h⟩
  | _ :: _ :: _, _, h => exact (show False from h).elim
def arg2 (g : D → D → Mo D) : List D → Mo D
  | [a, b] => g a b
  | _ => .stuck
theorem arg2_run {g : D → D → Mo D} {vs : List V} {ds : List D} {Q : VK} (r : RpA S.K W vs ds) (h : Post S W σ (arg2 g ds W.M) (PV S Q)) : ∃ v u d e, vs = [v, u] ∧ Rp S.K W v d ∧ Rp S.K W u e ∧ Post S W σ (g d e W.M) (PV S Q) := by
  match ds, r, h with
  | [], _, h => exact (show False from h).elim
  | [_], _, h => exact (show False from h).elim
  | [d, e], .cons rv (.cons ru .nil), h => exact ⟨_, _, d, e, rfl, rv, ru, h⟩
  | _ :: _ :: _ :: _, _, h => exact (show False from h).elim
/-- len -/
def lenB (M : Mem) (d : D) : Option Nat := match res M d with
  | .str y => if y.length ≤ sizeLine then some y.length else none
  | .tup l => some l.length
  | .lst l => some l.length
  | _ => none
def lenD (d : D) : Mo D := fun M => match lenB M d with
  | some n => some (.ok (.int n), M)
  | none => none
theorem cx_len : CXx S (.builtin "len") (arg1 lenD) := by
  refine ⟨⟨_, fun X c => by have z := (call_len_seq (X := X)).or call_len_str; rw [c.K] at z; exact z, fun W σ vs ds Q k r h => ?_⟩⟩
  obtain ⟨v, d, rfl, rv, h⟩ := arg1_run r h
  unfold lenD lenB at h
  cases e : res W.M d with
  | str y =>
    rw [e] at h
    simp only at h
    split at h
    · rename_i n hn
      split at hn
      · rename_i hl
        cases hn
        exact .inr ⟨y, by rw [res_str rv e], hl, post_ok k h _ (.int _)⟩
      · cases hn
    · exact h.elim
  | tup l =>
    rw [e] at h
    obtain ⟨a, xs, rfl, h1, h2⟩ := res_tup rv e
    exact .inl ⟨a, xs, rfl, .inr h1, by rw [h2.length]; exact post_ok k h _ (.int _)⟩
  | lst l =>
    rw [e] at h
    obtain ⟨a, xs, rfl, h1, h2⟩ := rd_lst k rv e
    exact .inl ⟨a, xs, rfl, .inl h1, by rw [h2.length]; exact post_ok k h _ (.int _)⟩
  | _ => rw [e] at h; exact h.elim
def absD (d : D) : Mo D := match d with
  | .int i => .ret (.int (if i < 0 then -i else i))
  | _ => .stuck
theorem cx_abs : CXx S (.builtin "abs") (arg1 absD) := by
  refine ⟨⟨_, fun X c => call_abs, fun W σ vs ds Q k r h => ?_⟩⟩
  obtain ⟨v, d, rfl, rv, h⟩ := arg1_run r h
  cases d with
  | int i => exact ⟨i, by rw [rp_int rv], Post.ret k h _ (.int _)⟩
  | _ => exact (show False from h).elim
def intD (d : D) : Mo D := match d with
  | .int i => .ret (.int i)
  | .bl b => .ret (.int (if b then 1 else 0))
  | _ => .stuck
theorem cx_int : CXx S (.type "int") (arg1 intD) := by
  refine ⟨⟨_, fun X c => call_int1, fun W σ vs ds Q k r h => ?_⟩⟩
  obtain ⟨v, d, rfl, rv, h⟩ := arg1_run r h
  cases d with
  | int i => exact .inl ⟨i, by rw [rp_int rv], Post.ret k h _ (.int _)⟩
  | bl b => exact .inr ⟨b, by rw [rp_bl rv], Post.ret k h _ (.int _)⟩
  | _ => exact (show False from h).elim
def gcdD (a b : D) : Mo D := intOp (fun _ _ => true) (fun i j => .int ((Nat.gcd i.natAbs j.natAbs : Nat) : Int)) a b
theorem cx_gcd : CXx S (.builtin "math.gcd") (arg2 gcdD) := by
  refine ⟨⟨_, fun X c => cr_gcd, fun W σ vs ds Q k r h => ?_⟩⟩
  obtain ⟨v, u, d, e, rfl, rv, ru, h⟩ := arg2_run r h
  obtain ⟨i, j, h1, h2, _, q⟩ := intOp_run k rv ru h
  exact ⟨i, j, by rw [h1, h2], q _ (.int _)⟩
def minD2 (a b : D) : Mo D := intOp (fun _ _ => true) (fun i j => .int (if j < i then j else i)) a b
def maxD2 (a b : D) : Mo D := intOp (fun _ _ => true) (fun i j => .int (if j > i then j else i)) a b
theorem cx_min2 : CXx S (.builtin "min") (arg2 minD2) := by
  refine ⟨⟨_, fun X c => call_min2 c.calm, fun W σ vs ds Q k r h => ?_⟩⟩
  obtain ⟨v, u, d, e, rfl, rv, ru, h⟩ := arg2_run r h
  obtain ⟨i, j, h1, h2, _, q⟩ := intOp_run k rv ru h
  exact ⟨i, j, by rw [h1, h2], q _ (.int _)⟩
theorem cx_max2 : CXx S (.builtin "max") (arg2 maxD2) := by
  refine ⟨⟨_, fun X c => call_max2 c.calm, fun W σ vs ds Q k r h => ?_⟩⟩
  obtain ⟨v, u, d, e, rfl, rv, ru, h⟩ := arg2_run r h
  obtain ⟨i, j, h1, h2, _, q⟩ := intOp_run k rv ru h
  exact ⟨i, j, by rw [h1, h2], q _ (.int _)⟩
/-- a global function of a built-in module (gcd) -/
theorem ex_callF {id : String} {x : Str} {p pos : Pos} {e : Expr} {es : List Expr} {g : List D → Mo D} {fa : En → Mo (List D)} (hc : CXx S (.builtin id) g) (hg : Gs S x) (hm : S.mg x = some (.builtin id)) (ha : AX S (e :: es) fa)
    (hdb : (x == ("__debug__" : Str)) = false := by decide) (he : ∀ env : PySem.Env, starEach (e :: es) env = (false, eval e env) :: starEach es env := by intro; rfl) (hpl : ∀ env : PySem.Env, (backTo pos (starEach es env)).any (·.1) = false := by intro; rfl) :
    EX S (.Call (.Name x p) (e :: es) [] pos) (fun ρ => .bnd (fa ρ) g) := by
  obtain ⟨r, h1, h2⟩ := hc.ex
  obtain ⟨ta, a1, a2⟩ := ha.ex
  refine ⟨tCB r ta, fun X c => pe_callBfun (h1 X c) (gl_of c hg) (by rw [c.mg]; exact hm) (a1 X c) hdb (he X.env) (hpl X.env), fun W σ ρ Q k st h => ?_⟩
  exact a2 W σ ρ _ k st (Post.imp (Post.bnd h) fun ds W1 l1 k1 q vs rvs => h2 W1 σ vs ds Q k1 rvs q)

theorem ex_ty {x : Str} {n : String} {pos : Pos} (hg : Gs S x) (hm : S.mg x = none) (hv : bootBuiltins x = some (.type n)) (hn : x ≠ "__name__" := by decide) (hd : (x == ("__debug__" : Str)) = false := by decide) : EX S (.Name x pos) (fun _ => .ret (.ty n)) :=
  ⟨tC (.ty n), fun X c => pe_bltn (gl_of c hg) (by rw [c.mg]; exact hm) hv rfl hn hd, sem_c fun _ => .ty n⟩
/-- the six classes that are asked for -/
inductive Cl where
  | int | bool | str | tuple | list | dict
  deriving DecidableEq
def Cl.name : Cl → String
  | .int => "int" | .bool => "bool" | .str => "str" | .tuple => "tuple" | .list => "list" | .dict => "dict"
def clOf (n : String) : Option Cl := if n = "int" then some .int else if n = "bool" then some .bool else if n = "str" then some .str else if n = "tuple" then some .tuple else if n = "list" then some .list else if n = "dict" then some .dict else none
theorem clOf_name {n : String} {c : Cl} (h : clOf n = some c) : n = c.name := by
  unfold clOf at h
  repeat (split at h; · (cases h; assumption))
  cases h
theorem clOf_self (c : Cl) : clOf c.name = some c := by cases c <;> decide
/-- is a value of the class -/
def isCl (M : Mem) (c : Cl) (d : D) : Option Bool := match res M d with
  | .non => some false
  | .bl _ => some (decide (c = .bool) || decide (c = .int))
  | .int _ => some (decide (c = .int))
  | .str _ => some (decide (c = .str))
  | .tup _ => some (decide (c = .tuple))
  | .lst _ => some (decide (c = .list))
  | _ => none
def isiD (a b : D) : Mo D := fun M => match b with
  | .ty n => match clOf n with
    | some c => match isCl M c a with
      | some k => some (.ok (.bl k), M)
      | none => none
    | none => none
  | _ => none
theorem kit_tab (c : Cl) : kitB "NoneType" c.name = some false ∧ kitB "bool" c.name = some (decide (c = .bool) || decide (c = .int)) ∧ kitB "int" c.name = some (decide (c = .int)) ∧ kitB "str" c.name = some (decide (c = .str)) ∧
    kitB "tuple" c.name = some (decide (c = .tuple)) ∧ kitB "list" c.name = some (decide (c = .list)) := by
  cases c <;> decide +kernel
theorem tyx_tup {K : PySem.W.Frag} {H : Hp} {a : Addr} {xs : List V} (h : SqT K H a xs) : TyX K H (.ref a) (.type "tuple") := by
  rcases h with (h | ⟨o, h⟩) | ⟨o, its, n, h1, h2, _⟩
  · exact .base (.tup h)
  · exact .fTuple h
  · exact .kTuple h1 h2
theorem tyx_lst {K : PySem.W.Frag} {H : Hp} {a : Addr} {xs : List V} (h : SqL K H a xs) : TyX K H (.ref a) (.type "list") := by
  rcases h with (h | ⟨o, h⟩) | ⟨o, its, n, h1, h2, _⟩
  · exact .base (.lst h)
  · exact .base (.frz h)
  · exact .kList h1 h2
theorem cx_isi : CXx S (.builtin "isinstance") (arg2 isiD) := by
  refine ⟨⟨_, fun X c => by have z := call_isi (X := X); rw [c.K] at z; exact z, fun W σ vs ds Q k r h => ?_⟩⟩
  obtain ⟨v, u, d, e, rfl, rv, ru, h⟩ := arg2_run r h
  unfold isiD at h
  cases e with
  | ty n =>
    cases ru
    simp only at h
    cases hc : clOf n with
    | none => rw [hc] at h; exact h.elim
    | some c =>
      rw [hc] at h
      rw [clOf_name hc]
      obtain ⟨t1, t2, t3, t4, t5, t6⟩ := kit_tab c
      simp only [isCl] at h
      cases e : res W.M d with
      | non =>
        rw [e] at h
        have ev : v = .non := by cases d <;> first | (cases e; exact rp_non rv) | (simp only [res] at e; split at e <;> cases e) | cases e
        exact ⟨v, _, .type "NoneType", _, _, rfl, .ty c.name, by rw [ev]; exact .base .non, kit_ty t1, post_ok k h _ (.bl _)⟩
      | bl b =>
        rw [e] at h
        have ev : v = .bl b := by cases d <;> first | (cases e; exact rp_bl rv) | (simp only [res] at e; split at e <;> cases e) | cases e
        exact ⟨v, _, .type "bool", _, _, rfl, .ty c.name, by rw [ev]; exact .base (.bl b), kit_ty t2, post_ok k h _ (.bl _)⟩
      | int i =>
        rw [e] at h
        exact ⟨v, _, .type "int", _, _, rfl, .ty c.name, by rw [res_int rv e]; exact .base (.int i), kit_ty t3, post_ok k h _ (.bl _)⟩
      | str y =>
        rw [e] at h
        exact ⟨v, _, .type "str", _, _, rfl, .ty c.name, by rw [res_str rv e]; exact .base (.str y), kit_ty t4, post_ok k h _ (.bl _)⟩
      | tup l =>
        rw [e] at h
        obtain ⟨a, xs, rfl, h1, h2⟩ := res_tup rv e
        exact ⟨_, _, .type "tuple", _, _, rfl, .ty c.name, tyx_tup h1, kit_ty t5, post_ok k h _ (.bl _)⟩
      | lst l =>
        rw [e] at h
        obtain ⟨a, xs, rfl, h1, h2⟩ := rd_lst k rv e
        exact ⟨_, _, .type "list", _, _, rfl, .ty c.name, tyx_lst h1, kit_ty t6, post_ok k h _ (.bl _)⟩
      | _ => rw [e] at h; exact h.elim
  | _ => exact h.elim

def seqB (M : Mem) (d : D) : Option (List D) := match res M d with
  | .tup l => some l
  | .lst l => some l
  | _ => none
def listD (d : D) : Mo D := fun M => match seqB M d with
  | some l => some (.ok (.lst l), M)
  | none => none
/-- list(..) that will change -/
def listM (d : D) : Mo D := fun M => match seqB M d with
  | some l => some (.ok (.ref M.length), M ++ [.lst l])
  | none => none
def tupleD (d : D) : Mo D := fun M => match seqB M d with
  | some l => some (.ok (.tup l), M)
  | none => none
theorem seqB_run {K : KP} {v : V} {d : D} {l : List D} (k : Ok K W) (r : Rp K W v d) (h : seqB W.M d = some l) : ∃ a xs, v = .ref a ∧ (SqL K.K W.H a xs ∨ SqT K.K W.H a xs) ∧ RpA K W xs l := by
  unfold seqB at h
  split at h
  · rename_i l e
    cases h
    obtain ⟨a, xs, rfl, h1, h2⟩ := res_tup r e
    exact ⟨a, xs, rfl, .inr h1, h2⟩
  · rename_i l e
    cases h
    obtain ⟨a, xs, rfl, h1, h2⟩ := rd_lst k r e
    exact ⟨a, xs, rfl, .inl h1, h2⟩
  · cases h
theorem post_lay {ds : List D} {vs : List V} {Q : VK} (k : Ok S.K W) (r : RpA S.K W vs ds) (h : Post S W σ (some (.ok (.lst ds), W.M)) (PV S Q)) : ∀ p, W.H p = none → Q (.ref p) (upd W.H p (.lst vs)) := fun p hp =>
  h (W.lay p (.lst vs)) (le_lay k hp) (k.lay hp) rfl _ (.lst (.inl upd_same) (k.frz_new hp) (r.mono (le_lay k hp)))
theorem post_layT {ds : List D} {vs : List V} {Q : VK} (k : Ok S.K W) (r : RpA S.K W vs ds) (h : Post S W σ (some (.ok (.tup ds), W.M)) (PV S Q)) : ∀ p, W.H p = none → Q (.ref p) (upd W.H p (.tup vs)) := fun p hp =>
  h (W.lay p (.tup vs)) (le_lay k hp) (k.lay hp) rfl _ (.tup (.inl (.inl upd_same)) (r.mono (le_lay k hp)))
theorem post_grow {ds : List D} {vs : List V} {Q : VK} (k : Ok S.K W) (r : RpA S.K W vs ds) (h : Post S W σ (some (.ok (.ref W.M.length), W.M ++ [.lst ds])) (PV S Q)) : ∀ p, W.H p = none → Q (.ref p) (upd W.H p (.lst vs)) := fun p hp => by
  have l := le_grow (K := S.K) (ho := .lst vs) (o := .lst ds) k hp
  refine h (W.grow p (.lst vs) (.lst ds)) l (k.grow hp ⟨vs, upd_same, r.mono l⟩) rfl _ (.ref ?_)
  show (W.β ++ [p])[W.M.length]? = some p
  rw [← k.len]; simp
theorem cx_list : CXx S (.type "list") (arg1 listD) := by
  refine ⟨⟨_, fun X c => by have z := call_list_of (X := X); rw [c.K] at z; exact z, fun W σ vs ds Q k r h => ?_⟩⟩
  obtain ⟨v, d, rfl, rv, h⟩ := arg1_run r h
  unfold listD at h
  split at h
  · rename_i l e
    obtain ⟨a, xs, rfl, h1, h2⟩ := seqB_run k rv e
    exact ⟨a, xs, rfl, h1, post_lay k h2 h⟩
  · exact h.elim
theorem cx_listM : CXx S (.type "list") (arg1 listM) := by
  refine ⟨⟨_, fun X c => by have z := call_list_of (X := X); rw [c.K] at z; exact z, fun W σ vs ds Q k r h => ?_⟩⟩
  obtain ⟨v, d, rfl, rv, h⟩ := arg1_run r h
  unfold listM at h
  split at h
  · rename_i l e
    obtain ⟨a, xs, rfl, h1, h2⟩ := seqB_run k rv e
    exact ⟨a, xs, rfl, h1, post_grow k h2 h⟩
  · exact h.elim
theorem cx_tuple : CXx S (.type "tuple") (arg1 tupleD) := by
  refine ⟨⟨_, fun X c => by have z := call_tuple_of (X := X); rw [c.K] at z; exact z, fun W σ vs ds Q k r h => ?_⟩⟩
  obtain ⟨v, d, rfl, rv, h⟩ := arg1_run r h
  unfold tupleD at h
  split at h
  · rename_i l e
    obtain ⟨a, xs, rfl, h1, h2⟩ := seqB_run k rv e
    refine ⟨a, xs, rfl, ?_⟩
    rcases h1 with h1 | h1
    · exact .inl ⟨h1, post_layT k h2 h⟩
    · exact .inr ⟨h1, post_ok k h _ (.tup h1 h2)⟩
  · exact h.elim

def inB (M : Mem) (x y : D) : Option Bool := match seqB M y with
  | some l => match py (res M x), pyL l with
    | some d, some ds => if SeqAt.shaped d = true ∧ SeqAt.shaped (.list ds) = true then some (ds.any fun z => PyData.eqv z d) else none
    | _, _ => none
  | none => none
def inD (x y : D) : Mo D := fun M => match inB M x y with
  | some c => some (.ok (.bl c), M)
  | none => none
def ninD (x y : D) : Mo D := fun M => match inB M x y with
  | some c => some (.ok (.bl (!c)), M)
  | none => none
def rInA (K : PySem.W.Frag) (neg : Bool) : R2 := fun x y H Q => ∃ d ds, Dp K H x d ∧ (Dp K H y (.list ds) ∨ Dp K H y (.tuple ds)) ∧ SeqAt.shaped d = true ∧ SeqAt.shaped (.list ds) = true ∧ Q (.bl (if neg then !ds.any (fun z => PyData.eqv z d) else ds.any fun z => PyData.eqv z d)) H
theorem op_inA {X : Cx} (hu : X.A.units + 65 < cLine) : OpR X (compareOp .In) (rInA X.K false) := by
  intro pins s σ H x y v u Q I rx ry h
  obtain ⟨d, ds, hd, he, sd, se, q⟩ := h
  obtain ⟨as, r1⟩ := Dp.reads I d x v hd rx
  rcases he with he | he
  · obtain ⟨bs, r2⟩ := Dp.reads I (.list ds) y u he ry
    exact SeqAt.in_list_reads r2 r1 (SeqAt.canLay_of_shaped se) (SeqAt.canLay_of_shaped sd) (room_in_shaped sd hu) ⟨.bl _, H, I, rfl, q⟩
  · obtain ⟨bs, r2⟩ := Dp.reads I (.tuple ds) y u he ry
    exact SeqAt.in_tuple_reads r2 r1 (SeqAt.canLay_of_shaped se) (SeqAt.canLay_of_shaped sd) (room_in_shaped sd hu) ⟨.bl _, H, I, rfl, q⟩
theorem op_ninA {X : Cx} (hu : X.A.units + 65 < cLine) : OpR X (compareOp .NotIn) (rInA X.K true) := by
  intro pins s σ H x y v u Q I rx ry h
  obtain ⟨d, ds, hd, he, sd, se, q⟩ := h
  obtain ⟨as, r1⟩ := Dp.reads I d x v hd rx
  rcases he with he | he
  · obtain ⟨bs, r2⟩ := Dp.reads I (.list ds) y u he ry
    exact SeqAt.notIn_list_reads r2 r1 (SeqAt.canLay_of_shaped se) (SeqAt.canLay_of_shaped sd) (room_in_shaped sd hu) ⟨.bl _, H, I, rfl, q⟩
  · obtain ⟨bs, r2⟩ := Dp.reads I (.tuple ds) y u he ry
    exact SeqAt.notIn_tuple_reads r2 r1 (SeqAt.canLay_of_shaped se) (SeqAt.canLay_of_shaped sd) (room_in_shaped sd hu) ⟨.bl _, H, I, rfl, q⟩
theorem inB_run {K : KP} {x y : V} {a b : D} {c : Bool} (k : Ok K W) (rx : Rp K W x a) (ry : Rp K W y b) (h : inB W.M a b = some c) :
    ∃ d ds, Dp K.K W.H x d ∧ (Dp K.K W.H y (.list ds) ∨ Dp K.K W.H y (.tuple ds)) ∧ SeqAt.shaped d = true ∧ SeqAt.shaped (.list ds) = true ∧ (ds.any fun z => PyData.eqv z d) = c := by
  unfold inB at h
  split at h
  · rename_i l e
    obtain ⟨p, xs, rfl, h1, h2⟩ := seqB_run k ry e
    split at h
    · rename_i d ds e1 e2
      split at h
      · rename_i hs
        cases h
        refine ⟨d, ds, res_dp k rx e1, ?_, hs.1, hs.2, rfl⟩
        rcases h1 with h1 | h1
        · exact .inl (.lst h1 (rpa_dp h2 e2))
        · exact .inr (.tup h1 (rpa_dp h2 e2))
      · cases h
    · cases h
  · cases h
theorem ox_in : OX S (compareOp .In) inD := by
  refine ⟨⟨rInA S.F false, fun X c => by have z := op_inA (X := X) (hu_of' c); rw [c.K] at z; exact z, fun W σ x y a b Q k rx ry h => ?_⟩⟩
  unfold inD at h
  split at h
  · rename_i c e
    obtain ⟨d, ds, h1, h2, h3, h4, h5⟩ := inB_run k rx ry e
    exact ⟨d, ds, h1, h2, h3, h4, by rw [if_neg Bool.false_ne_true, h5]; exact post_ok k h _ (.bl c)⟩
  · exact h.elim
theorem ox_nin : OX S (compareOp .NotIn) ninD := by
  refine ⟨⟨rInA S.F true, fun X c => by have z := op_ninA (X := X) (hu_of' c); rw [c.K] at z; exact z, fun W σ x y a b Q k rx ry h => ?_⟩⟩
  unfold ninD at h
  split at h
  · rename_i c e
    obtain ⟨d, ds, h1, h2, h3, h4, h5⟩ := inB_run k rx ry e
    exact ⟨d, ds, h1, h2, h3, h4, by rw [if_pos rfl, h5]; exact post_ok k h _ (.bl (!c))⟩
  · exact h.elim
end
end DL
namespace DL
open PySem PySem.Spec PyProof.Rows L2

def tBMg (ty : V → Hp → Prop) (r : V → List V → Hp → VK → Prop) (to : TE) (t : TA) : TE := fun σ H Q => to σ H fun x H1 => ty x H1 ∧ t σ H1 fun xs H2 => r x xs H2 Q
def TyG (X : Cx) (T : String) (ty : V → Hp → Prop) : Prop := ∀ (pins : List (Addr × Obj)) (σ : L2.St) (H : Hp) (s : Shared) (x : V) (v : Value), Inv X pins σ H s → RelV x v → ty x H → s.TypeIs v T ∧ ∀ a, v = .ref a → ∃ ob, s.heap.get? a = some ob ∧ ob.dict = none
section
variable {X : Cx} {o e : Expr} {es : List Expr} {to : TE} {t : TA} {name : Str} {apos cpos : Pos} {T id : String} {r : V → List V → Hp → VK → Prop} {ty : V → Hp → Prop}
theorem pe_bmG (pa : PlainAttrs T) (sl : Slot T name id) (hd : typeOf (.builtin id) = pure (.type "method_descriptor")) (hm : MtR X id r) (hT : TyG X T ty) (ho : PE X o to) (ha : PA X (e :: es) t)
    (hb : attributeBase o name X.env (eval o X.env) = eval o X.env)
    (hf : ((backTo cpos (starEach (e :: es) X.env)).all (fun x => !x.1) && (backToKw cpos (keywordEach [] X.env)).all (fun x => x.1.isSome) && decide ((e :: es).length + ([] : List Keyword).length + (if ([] : List Keyword).isEmpty then 0 else 1) < 30)) = true)
    (hl : (apos.endLine == cpos.line) = true) (hs : starEach (e :: es) X.env = (false, eval e X.env) :: starEach es X.env) (hp : (backTo cpos (starEach es X.env)).any (·.1) = false) :
    PE X (.Call (.Attribute o name apos) (e :: es) [] cpos) (tBMg ty r to t) := ⟨fun pins s σ H Q I h =>
  wpAny_Call_method_late hb hf hl rfl (thn (ho.run pins s σ H _ I h) fun v s1 ⟨x, H1, I1, r1, q0, q1⟩ => by
    obtain ⟨k1, k2⟩ := hT pins σ H1 s1 x v I1 r1 q0
    refine ⟨T, id, pa, sl, hd, k1, k2, ?_⟩
    have z := ha.run cpos pins s1 σ H1 _ I1 q1
    rw [hs] at z ⊢
    have hp2 : (((false, eval e X.env) :: backTo cpos (starEach es X.env)).any (·.1)) = false := by rw [List.any_cons, hp]; rfl
    exact Calls.callWith_builtin hp2 (Calls.evalArgs_plain (thn z fun us s2 ⟨vs, H2, I2, r2, q2⟩ => hm pins s2 σ H2 x vs v us Q I2 r1 r2 q2)))⟩
theorem pe_bmG0 (pa : PlainAttrs T) (sl : Slot T name id) (hd : typeOf (.builtin id) = pure (.type "method_descriptor")) (hm : MtR X id r) (hT : TyG X T ty) (ho : PE X o to)
    (hb : attributeBase o name X.env (eval o X.env) = eval o X.env) (hl : (apos.endLine == cpos.line) = true) : PE X (.Call (.Attribute o name apos) [] [] cpos) (tBMg ty r to tNil) := ⟨fun pins s σ H Q I h =>
  wpAny_Call_method0_late hb hl (thn (ho.run pins s σ H _ I h) fun v s1 ⟨x, H1, I1, r1, q0, q1⟩ => by
    obtain ⟨k1, k2⟩ := hT pins σ H1 s1 x v I1 r1 q0
    exact ⟨T, id, pa, sl, hd, k1, k2, Calls.callWith_builtin rfl (PySem.evalArgs_none (hm pins s1 σ H1 x [] v [] Q I1 r1 .nil q1))⟩)⟩
end
def tyL (K : PySem.W.Frag) (x : V) (H : Hp) : Prop := ∃ a xs, x = .ref a ∧ SqL K H a xs
def tyD (K : KP) (x : V) (H : Hp) : Prop := ∃ a, x = .ref a ∧ ((∃ kvs, Rd H a (.dK kvs)) ∨ ∃ xs, Rd H a (TD K a xs))
theorem tyG_list {X : Cx} : TyG X "list" (tyL X.K) := by
  intro pins σ H s x v I r h
  obtain ⟨a, xs, rfl, h⟩ := h
  cases r
  obtain ⟨its, _, ⟨o, n, e, hc, hd, _⟩, _⟩ := I.list h
  exact ⟨⟨o, e, hc⟩, fun b hb => by cases hb; exact ⟨o, e, hd⟩⟩
theorem td_at {X : Cx} {pins : List (Addr × Obj)} {σ : L2.St} {H : Hp} {s : Shared} {a : Addr} {xs : TE3} {K : KP} (I : Inv X pins σ H s) (h : Rd H a (TD K a xs)) : TDok K a xs s.heap := (h.ok I.hok).1
theorem tyG_dict {X : Cx} {K : KP} : TyG X "dict" (tyD K) := by
  intro pins σ H s x v I r h
  obtain ⟨a, rfl, h⟩ := h
  cases r
  rcases h with ⟨kvs, h⟩ | ⟨xs, h⟩
  · obtain ⟨_, _, vs, _, o, es, ep, e, c, _⟩ := dk_rd I.hok h
    exact ⟨⟨o, e, c.1⟩, fun b hb => by cases hb; exact ⟨o, e, c.2.1⟩⟩
  · obtain ⟨_, _, o, es, ep, e, c, _⟩ := td_at I h
    exact ⟨⟨o, e, c.1⟩, fun b hb => by cases hb; exact ⟨o, e, c.2.1⟩⟩
section
variable {S : SC} {W : Wd} {σ : L2.St}
/-- a method g of the type T, of receivers that c lets in -/
structure MX (S : SC) (T : String) (name : Str) (c : Mem → D → Bool) (g : D → List D → Mo D) : Prop where
  ex : ∃ (id : String) (ty : V → Hp → Prop) (r : V → List V → Hp → VK → Prop), PlainAttrs T ∧ Slot T name id ∧ typeOf (.builtin id) = pure (.type "method_descriptor") ∧ (∀ X, InC S X → TyG X T ty ∧ MtR X id r) ∧
    (∀ (W : Wd) (x : V) (a : D), Ok S.K W → Rp S.K W x a → c W.M a = true → ty x W.H) ∧
    ∀ (W : Wd) (σ : L2.St) (x : V) (xs : List V) (a : D) (as : List D) (Q : VK), Ok S.K W → Rp S.K W x a → RpA S.K W xs as → Post S W σ (g a as W.M) (PV S Q) → r x xs W.H Q
def chkM {α : Type} (c : Mem → D → Bool) (a : D) (m : Mo α) : Mo α := fun M => cond (c M a) (m M) none
theorem ex_meth {T : String} {name : Str} {c : Mem → D → Bool} {g : D → List D → Mo D} {o e : Expr} {es : List Expr} {apos cpos : Pos} {fo : En → Mo D} {fa : En → Mo (List D)} (hm : MX S T name c g) (ho : EX S o fo) (ha : AX S (e :: es) fa)
    (hb : ∀ X, InC S X → attributeBase o name X.env (eval o X.env) = eval o X.env := by intros; rfl)
    (hf : ∀ env : PySem.Env, ((backTo cpos (starEach (e :: es) env)).all (fun x => !x.1) && (backToKw cpos (keywordEach [] env)).all (fun x => x.1.isSome) && decide ((e :: es).length + ([] : List Keyword).length + (if ([] : List Keyword).isEmpty then 0 else 1) < 30)) = true := by intro; rfl)
    (hl : (apos.endLine == cpos.line) = true := by rfl) (hs : ∀ env : PySem.Env, starEach (e :: es) env = (false, eval e env) :: starEach es env := by intro; rfl) (hp : ∀ env : PySem.Env, (backTo cpos (starEach es env)).any (·.1) = false := by intro; rfl) :
    EX S (.Call (.Attribute o name apos) (e :: es) [] cpos) (fun ρ => .bnd (fo ρ) fun a => chkM c a (.bnd (fa ρ) fun as => g a as)) := by
  obtain ⟨id, ty, r, m1, m2, m3, m4, m5, m6⟩ := hm.ex
  obtain ⟨to, o1, o2⟩ := ho.ex
  obtain ⟨ta, a1, a2⟩ := ha.ex
  refine ⟨tBMg ty r to ta, fun X cx => pe_bmG m1 m2 m3 (m4 X cx).2 (m4 X cx).1 (o1 X cx) (a1 X cx) (hb X cx) (hf X.env) hl (hs X.env) (hp X.env), fun W σ ρ Q k st h => ?_⟩
  refine o2 W σ ρ _ k st (Post.imp (Post.bnd h) fun a W1 l1 k1 h1 v rv => ?_)
  obtain ⟨h2, h3⟩ := post_condO h1
  refine ⟨m5 W1 v a k1 rv h2, a2 W1 σ ρ _ k1 (st.mono l1) (Post.imp (Post.bnd h3) fun as W2 l2 k2 h4 vs rvs => ?_)⟩
  exact m6 W2 σ v vs a as Q k2 (rv.mono l2) rvs h4
theorem ex_meth0 {T : String} {name : Str} {c : Mem → D → Bool} {g : D → List D → Mo D} {o : Expr} {apos cpos : Pos} {fo : En → Mo D} (hm : MX S T name c g) (ho : EX S o fo)
    (hb : ∀ X, InC S X → attributeBase o name X.env (eval o X.env) = eval o X.env := by intros; rfl) (hl : (apos.endLine == cpos.line) = true := by rfl) :
    EX S (.Call (.Attribute o name apos) [] [] cpos) (fun ρ => .bnd (fo ρ) fun a => chkM c a (g a [])) := by
  obtain ⟨id, ty, r, m1, m2, m3, m4, m5, m6⟩ := hm.ex
  obtain ⟨to, o1, o2⟩ := ho.ex
  refine ⟨tBMg ty r to tNil, fun X cx => pe_bmG0 m1 m2 m3 (m4 X cx).2 (m4 X cx).1 (o1 X cx) (hb X cx) hl, fun W σ ρ Q k st h => ?_⟩
  refine o2 W σ ρ _ k st (Post.imp (Post.bnd h) fun a W1 l1 k1 h1 v rv => ?_)
  obtain ⟨h2, h3⟩ := post_condO h1
  exact ⟨m5 W1 v a k1 rv h2, m6 W1 σ v [] a [] Q k1 rv .nil h3⟩

def isL (M : Mem) (d : D) : Bool := match res M d with
  | .lst _ => true
  | _ => false
theorem isL_ty {x : V} {a : D} (k : Ok S.K W) (r : Rp S.K W x a) (h : isL W.M a = true) : tyL S.F x W.H := by
  unfold isL at h
  split at h
  · rename_i l e
    obtain ⟨p, xs, rfl, h1, _⟩ := rd_lst k r e
    exact ⟨p, xs, rfl, h1⟩
  · cases h
/-- the items of a changing list -/
def cur (M : Mem) (d : D) : Option (Nat × List D) := match d with
  | .ref n => match M[n]? with
    | some (.lst l) => some (n, l)
    | _ => none
  | _ => none
theorem cur_run {K : KP} {x : V} {a : D} {n : Nat} {l : List D} (k : Ok K W) (r : Rp K W x a) (h : cur W.M a = some (n, l)) : a = .ref n ∧ W.M[n]? = some (.lst l) ∧ ∃ p xs, x = .ref p ∧ W.β[n]? = some p ∧ W.H p = some (.lst xs) ∧ RpA K W xs l := by
  cases a with
  | ref m =>
    cases r with
    | @ref _ p hb =>
      simp only [cur] at h
      split at h
      · rename_i l' e
        cases h
        obtain ⟨xs, h1, h2⟩ := k.ob _ _ _ hb e
        exact ⟨rfl, e, p, xs, rfl, hb, h1, h2⟩
      · cases h
  | _ => cases h
/-- a changing list gets other items -/
theorem put_lst {Q : VK} {n : Nat} {p : Addr} {l ds : List D} {vs : List V} {d : D} {v : V} (k : Ok S.K W) (hb : W.β[n]? = some p) (hm : W.M[n]? = some (.lst l)) (r : RpA S.K W vs ds) (rv : Rp S.K W v d)
    (h : Post S W σ (some (.ok d, W.M.set n (.lst ds))) (PV S Q)) : Q v (upd W.H p (.lst vs)) := by
  have le := le_put (K := S.K) (ho := .lst vs) (o := .lst ds) k hb hm (by intro q; cases q)
  exact h (W.put n p (.lst vs) (.lst ds)) le (k.put hb hm (by intro q; cases q) ⟨vs, upd_same, r.mono le⟩) rfl v (rv.mono le)
def appendD (a : D) : List D → Mo D
  | [d] => fun M => match cur M a with
    | some (n, l) => cond (decide (l.length < sizeLine)) (some (.ok .non, M.set n (.lst (l ++ [d])))) none
    | none => none
  | _ => .stuck
theorem mx_append : MX S "list" "append" isL appendD := by
  refine ⟨⟨"list.append", tyL S.F, rAppend, PySem.F.plainAttrs_list, PySem.F.slot_list_append, PySem.F.type_list_append, fun X c => ⟨by have z := tyG_list (X := X); rw [c.K] at z; exact z, mt_append⟩, fun W x a k r h => isL_ty k r h, fun W σ x xs a as Q k r rs h => ?_⟩⟩
  match as, rs, h with
  | [], _, h => exact h.elim
  | [d], .cons (v := v) rv .nil, h =>
    simp only [appendD] at h
    split at h
    · rename_i n l e
      obtain ⟨_, hm, p, xs, rfl, hb, hH, rl⟩ := cur_run k r e
      obtain ⟨h1, h2⟩ := post_condO h
      exact ⟨p, xs, v, rfl, rfl, hH, by rw [rl.length]; exact of_decide_eq_true h1, put_lst k hb hm (rl.append (.one rv)) .non h2⟩
    · exact h.elim
  | _ :: _ :: _, _, h => exact h.elim
/-- xs.pop(), xs.pop(i) -/
def popD (a : D) : List D → Mo D
  | [] => fun M => match cur M a with
    | some (n, l) => match l[l.length - 1]? with
      | some d => some (.ok d, M.set n (.lst l.dropLast))
      | none => none
    | none => none
  | [.int i] => fun M => match cur M a with
    | some (n, l) => if -(2 ^ 63) ≤ i ∧ i < 2 ^ 63 then (match seqIndex? i l.length with
      | some j => match l[j]? with
        | some d => some (.ok d, M.set n (.lst (l.eraseIdx j)))
        | none => none
      | none => none) else none
    | none => none
  | _ => .stuck
theorem mx_pop : MX S "list" "pop" isL popD := by
  refine ⟨⟨"list.pop", tyL S.F, fun x xs H Q => rPop x xs H Q ∨ rPopAt x xs H Q, PySem.F.plainAttrs_list, PySem.F.slot_list_pop, PySem.F.type_list_pop, fun X c => ⟨by have z := tyG_list (X := X); rw [c.K] at z; exact z, MtR.or mt_pop mt_popAt⟩, fun W x a k r h => isL_ty k r h, fun W σ x xs a as Q k r rs h => ?_⟩⟩
  unfold popD at h
  split at h
  · cases rs
    split at h
    · rename_i n l e
      obtain ⟨_, hm, p, xs, rfl, hb, hH, rl⟩ := cur_run k r e
      split at h
      · rename_i d hd
        obtain ⟨v, hv, rv⟩ := rl.get hd
        exact .inl ⟨p, xs, v, rfl, rfl, hH, by rw [rl.length]; exact hv, put_lst k hb hm rl.dropLast rv h⟩
      · exact h.elim
    · exact h.elim
  · rename_i i
    cases rs with
    | cons ri rn =>
      cases rn
      rw [rp_int ri]
      split at h
      · rename_i n l e
        obtain ⟨_, hm, p, xs, rfl, hb, hH, rl⟩ := cur_run k r e
        split at h
        · rename_i hi
          split at h
          · rename_i j hj
            split at h
            · rename_i d hd
              obtain ⟨v, hv, rv⟩ := rl.get hd
              exact .inr ⟨p, xs, i, j, v, rfl, rfl, hH, hi.1, hi.2, by rw [rl.length]; exact hj, hv, put_lst k hb hm (rl.erase j) rv h⟩
            · exact h.elim
          · exact h.elim
        · exact h.elim
      · exact h.elim
  · exact (show False from h).elim
/-- xs.extend(ys), ys a list -/
def extendD (a : D) : List D → Mo D
  | [b] => fun M => match cur M a, res M b with
    | some (n, l), .lst m => cond (decide (l.length + m.length ≤ sizeLine)) (some (.ok .non, M.set n (.lst (l ++ m)))) none
    | _, _ => none
  | _ => .stuck

def atD (l : List D) (i : Int) : Option D := (ixN l.length i).bind fun j => l[j]?
theorem atD_run {K : KP} {xs : List V} {l : List D} {i : Int} {d : D} (r : RpA K W xs l) (h : atD l i = some d) : ∃ v, atI xs i = some v ∧ Rp K W v d := by
  unfold atD at h
  unfold atI
  rw [r.length]
  cases e : ixN l.length i with
  | none => rw [e] at h; cases h
  | some j =>
    rw [e] at h
    obtain ⟨v, h1, h2⟩ := r.get h
    exact ⟨v, h1, h2⟩

def toK : D → Option Key
  | .int i => some (.inl i)
  | .str x => some (.inr x)
  | _ => none
def toKL : List D → Option (List Key)
  | [] => some []
  | d :: r => match toK d, toKL r with
    | some k, some ks => some (k :: ks)
    | _, _ => none
def toKT : D → Option (List Key)
  | .tup l => toKL l
  | _ => none
theorem toK_kD (k : Key) : toK (kD k) = some k := by cases k <;> rfl
theorem toKL_map : ∀ ks : List Key, toKL (ks.map kD) = some ks
  | [] => rfl
  | k :: ks => by simp only [List.map_cons, toKL, toK_kD, toKL_map ks]
theorem toKT_kt (ks : List Key) : toKT (ktD ks) = some ks := toKL_map ks
theorem toK_run {K : KP} {v : V} {d : D} {k : Key} (r : Rp K W v d) (h : toK d = some k) : v = kV k ∧ d = kD k := by
  cases d with
  | int i => cases h; exact ⟨rp_int r, rfl⟩
  | str x => cases h; exact ⟨rp_str r, rfl⟩
  | _ => cases h
theorem toKL_run {K : KP} : ∀ {vs : List V} {l : List D} {ks : List Key}, RpA K W vs l → toKL l = some ks → vs = ks.map kV ∧ l = ks.map kD
  | _, _, _, .nil, h => by cases h; exact ⟨rfl, rfl⟩
  | _, _, _, .cons (d := d) (ds := ds) r t, h => by
    rw [toKL] at h
    cases e : toK d with
    | none => rw [e] at h; cases h
    | some k =>
      cases e2 : toKL ds with
      | none => rw [e, e2] at h; cases h
      | some ks =>
        rw [e, e2] at h; cases h
        obtain ⟨h1, h2⟩ := toK_run r e
        obtain ⟨h3, h4⟩ := toKL_run t e2
        exact ⟨by rw [h1, h3]; rfl, by rw [h2, h4]; rfl⟩
theorem toKT_run {K : KP} {v : V} {d : D} {ks : List Key} (r : Rp K W v d) (h : toKT d = some ks) : d = ktD ks ∧ ∃ b, v = .ref b ∧ SqT K.K W.H b (ks.map kV) := by
  cases d with
  | tup l =>
    cases r with
    | tup h1 r =>
      obtain ⟨h2, h3⟩ := toKL_run r h
      subst h2 h3
      exact ⟨rfl, _, rfl, h1⟩
  | _ => cases h
section
variable {κ : Type} [DecidableEq κ] (dec : D → Option κ)
def findG (ds : List (D × D)) (k : κ) : Option D := match ds with
  | [] => none
  | p :: r => if dec p.1 = some k then some p.2 else findG r k
def putG (ds : List (D × D)) (k : κ) (kd d : D) : List (D × D) := if (findG dec ds k).isSome then ds.map (fun p => if dec p.1 = some k then (p.1, d) else p) else ds ++ [(kd, d)]
def dropG (ds : List (D × D)) (k : κ) : List (D × D) := ds.filter fun p => decide (dec p.1 ≠ some k)
end
section
variable {K : KP}
theorem findG_k {k : Key} : ∀ {kvs : List (Key × V)} {ds : List (D × D)}, RpK K W kvs ds → (∀ d, findG toK ds k = some d → ∃ v, valV kvs k = some v ∧ Rp K W v d) ∧ (findG toK ds k = none → valV kvs k = none)
  | _, _, .nil => ⟨fun d h => by simp [findG] at h, fun _ => rfl⟩
  | _, _, .cons (k := j) (v := v) (kvs := kvs) (d := d) (ds := ds) r t => by
    unfold findG
    rw [toK_kD]
    by_cases e : j = k
    · subst e
      rw [if_pos rfl]
      exact ⟨fun d' h => by cases h; exact ⟨v, valV_pos rfl, r⟩, fun h => by cases h⟩
    · rw [if_neg (fun q => e (Option.some.inj q)), valV_neg e]
      exact findG_k t
theorem mapG_k {k : Key} {v : V} {d : D} (rv : Rp K W v d) : ∀ {kvs : List (Key × V)} {ds : List (D × D)}, RpK K W kvs ds → RpK K W (kvs.map fun kv => if kv.1 = k then (kv.1, v) else kv) (ds.map fun p => if toK p.1 = some k then (p.1, d) else p)
  | _, _, .nil => .nil
  | _, _, .cons (k := j) r t => by
    rw [List.map_cons, List.map_cons]
    simp only [toK_kD]
    by_cases e : j = k
    · subst e
      rw [if_pos rfl, if_pos rfl]
      exact .cons rv (mapG_k rv t)
    · rw [if_neg e, if_neg (fun q => e (Option.some.inj q))]
      exact .cons r (mapG_k rv t)
theorem RpK.append : ∀ {v w : List (Key × V)} {d e : List (D × D)}, RpK K W v d → RpK K W w e → RpK K W (v ++ w) (d ++ e)
  | _, _, _, _, .nil, s => s
  | _, _, _, _, .cons h t, s => .cons h (RpK.append t s)
theorem putG_k {k : Key} {v : V} {d : D} {kvs : List (Key × V)} {ds : List (D × D)} (r : RpK K W kvs ds) (rv : Rp K W v d) : RpK K W (putK kvs k v) (putG toK ds k (kD k) d) := by
  obtain ⟨h1, h2⟩ := findG_k (k := k) r
  unfold putK putG
  rw [valV_any]
  cases e : findG toK ds k with
  | none => rw [h2 e, if_neg (by simp), if_neg (by simp)]; exact r.append (.cons rv .nil)
  | some d' =>
    obtain ⟨v', e', _⟩ := h1 d' e
    rw [e', if_pos (by simp), if_pos (by simp)]
    exact mapG_k rv r
theorem dropG_k {k : Key} : ∀ {kvs : List (Key × V)} {ds : List (D × D)}, RpK K W kvs ds → RpK K W (dropK kvs k) (dropG toK ds k)
  | _, _, .nil => .nil
  | _, _, .cons (k := j) r t => by
    unfold dropK dropG
    rw [List.filter_cons, List.filter_cons]
    simp only [toK_kD]
    by_cases e : j = k
    · subst e
      rw [if_neg (by simp), if_neg (by simp)]
      exact dropG_k t
    · rw [if_pos (by simpa using e), if_pos (by simpa using e)]
      exact .cons r (dropG_k t)
theorem rpk_len : ∀ {kvs : List (Key × V)} {ds : List (D × D)}, RpK K W kvs ds → kvs.length = ds.length
  | _, _, .nil => rfl
  | _, _, .cons _ t => by simp only [List.length_cons, rpk_len t]
theorem rpt_len : ∀ {kvs : List (List Key × V)} {ds : List (D × D)}, RpT K W kvs ds → kvs.length = ds.length
  | _, _, .nil => rfl
  | _, _, .cons _ t => by simp only [List.length_cons, rpt_len t]
theorem findG_t {k : List Key} : ∀ {xs : TE3} {kvs : List (List Key × V)} {ds : List (D × D)}, KS K.K W.H xs kvs → RpT K W kvs ds → (∀ d, findG toKT ds k = some d → ∃ p v, atKey xs k = some p ∧ RelV v p.2 ∧ Rp K W v d) ∧ (findG toKT ds k = none → atKey xs k = none)
  | _, _, _, .nil, .nil => ⟨fun d h => by simp [findG] at h, fun _ => rfl⟩
  | _, _, _, .cons (k := j) (q := q) (u := u) (v := v) (xs := xs) hs ru t, .cons (ds := ds) r t2 => by
    unfold findG
    rw [toKT_kt]
    have e0 : atKey ((j, q, u) :: xs) k = if j = k then some (q, u) else atKey xs k := by
      unfold atKey
      rw [List.find?_cons]
      by_cases e : j = k
      · simp [e]
      · simp [e]
    rw [e0]
    by_cases e : j = k
    · subst e
      rw [if_pos rfl, if_pos rfl]
      exact ⟨fun d' h => by cases h; exact ⟨_, v, rfl, ru, r⟩, fun h => by cases h⟩
    · rw [if_neg (fun q => e (Option.some.inj q)), if_neg e]
      exact findG_t t t2
theorem mapG_t {k : List Key} {v : V} {u : Value} {d : D} (ru : RelV v u) (rv : Rp K W v d) : ∀ {xs : TE3} {kvs : List (List Key × V)} {ds : List (D × D)}, KS K.K W.H xs kvs → RpT K W kvs ds →
    ∃ kvs', KS K.K W.H (xs.map (putAt k u)) kvs' ∧ RpT K W kvs' (ds.map fun p => if toKT p.1 = some k then (p.1, d) else p)
  | _, _, _, .nil, .nil => ⟨[], .nil, .nil⟩
  | _, _, _, .cons (k := j) hs ru' t, .cons r t2 => by
    obtain ⟨kvs', h1, h2⟩ := mapG_t (k := k) ru rv t t2
    rw [List.map_cons, List.map_cons]
    simp only [toKT_kt, putAt]
    by_cases e : j = k
    · subst e
      rw [if_pos rfl, if_pos rfl]
      exact ⟨_, .cons hs ru h1, .cons rv h2⟩
    · rw [if_neg e, if_neg (fun q => e (Option.some.inj q))]
      exact ⟨_, .cons hs ru' h1, .cons r h2⟩
theorem KS.append {F : PySem.W.Frag} {H : Hp} : ∀ {xs ys : TE3} {k l : List (List Key × V)}, KS F H xs k → KS F H ys l → KS F H (xs ++ ys) (k ++ l)
  | _, _, _, _, .nil, s => s
  | _, _, _, _, .cons a b t, s => .cons a b (KS.append t s)
theorem RpT.append : ∀ {v w : List (List Key × V)} {d e : List (D × D)}, RpT K W v d → RpT K W w e → RpT K W (v ++ w) (d ++ e)
  | _, _, _, _, .nil, s => s
  | _, _, _, _, .cons h t, s => .cons h (RpT.append t s)
theorem putG_t {k : List Key} {b : Addr} {v : V} {u : Value} {d : D} {xs : TE3} {kvs : List (List Key × V)} {ds : List (D × D)} (h : KS K.K W.H xs kvs) (r : RpT K W kvs ds) (hb : SqT K.K W.H b (k.map kV)) (ru : RelV v u) (rv : Rp K W v d) :
    ∃ kvs', KS K.K W.H (storedH xs k b u) kvs' ∧ RpT K W kvs' (putG toKT ds k (ktD k) d) := by
  obtain ⟨h1, h2⟩ := findG_t (k := k) h r
  unfold putG
  cases e : findG toKT ds k with
  | none =>
    rw [storedH_new (h2 e), if_neg (by simp)]
    exact ⟨_, h.append (.cons hb ru .nil), r.append (.cons rv .nil)⟩
  | some d' =>
    obtain ⟨p, v', e', _⟩ := h1 d' e
    rw [storedH_old e', if_pos (by simp)]
    exact mapG_t ru rv h r
end
end
end DL
namespace DL
open PySem PySem.Spec PyProof.Rows L2

/-- the dict at a has o at the key y -/
def DG (K : KP) (H : Hp) (a : Addr) (y : V) (o : Option V) : Prop :=
  (∃ kvs k, Rd H a (.dK kvs) ∧ y = kV k ∧ o = valV kvs k) ∨
    ∃ xs ks b, Rd H a (TD K a xs) ∧ (∃ kvs, KS K.K H xs kvs) ∧ y = .ref b ∧ SqT K.K H b (ks.map kV) ∧ RelO o ((atKey xs ks).map (·.2))
section
variable {X : Cx} {pins : List (Addr × Obj)} {σ : L2.St} {H : Hp} {s : Shared} {a b : Addr} {xs : TE3} {ks : List Key} {kvs : List (List Key × V)} {y v d : V} {u r : Value} {o : Option V} {A : Around} {E : Value → Shared → Prop} {K : KP}
abbrev XK (X : Cx) : KP := ⟨X.prog, X.w, X.K, [], []⟩
theorem key_sq (I : Inv X pins σ H s) (h : SqT X.K H b (ks.map kV)) : (tupleKind (mixKind X.prog X.w)).is s.heap ks b := by
  obtain ⟨its, r, ⟨ob, h1, h2, n, h3⟩, _⟩ := I.tuple h
  exact ⟨ob, its.toArray, n, h1, h2, h3, by simpa using items_are r⟩
theorem keys_sq (I : Inv X pins σ H s) : ∀ {xs : TE3} {kvs : List (List Key × V)}, KS X.K H xs kvs → ∀ x ∈ xs, (tupleKind (mixKind X.prog X.w)).is s.heap x.1 x.2.1
  | _, _, .nil, x, h => by cases h
  | _, _, .cons hs _ t, x, h => by
    rcases List.mem_cons.mp h with rfl | h
    · exact key_sq I hs
    · exact keys_sq I t x h
theorem td_dict (I : Inv X pins σ H s) (h : Rd H a (TD (XK X) a xs)) (q : KS X.K H xs kvs) : xs.length ≤ sizeLine ∧ (a == sysModules) = false ∧ s.heap.DictOfH (tupleKind (mixKind X.prog X.w)) a xs := by
  obtain ⟨h1, h2, ob, es, ep, h3, h4, h5, h6, h7⟩ := td_at I h
  exact ⟨h1, h2, ob, es, ep, h3, h4, h5, h6, keys_sq I q, h7⟩
theorem dg_getItem {Q : Value → Shared → Prop} (hu : A.units + 1 < cLine) (I : Inv X pins σ H s) (g : DG (XK X) H a y (some v)) (ry : RelV y u) (h : ∀ w' s', Inv X pins σ H s' → RelV v w' → Q w' s') : wpAny (model X.prog X.w) A (getItem (.ref a) u) Q E s := by
  rcases g with ⟨kvs, k, e1, e2, e3⟩ | ⟨xs, ks, b, e1, ⟨kvs, q⟩, rfl, e2, e3⟩
  · exact d_getItem hu I (.inl ⟨kvs, k, e1, e2, e3⟩) ry h
  · cases (show u = Value.ref b from ry)
    obtain ⟨_, _, dd⟩ := td_dict I e1 q
    obtain ⟨w', hw, rw'⟩ := e3.some_of
    obtain ⟨p, hp, hp2⟩ := Option.map_eq_some_iff.mp hw
    exact wpAny_getItem_heap (tupleKind_room_in1 hu) (key_sq I e2) dd hp (by rw [hp2]; exact h w' _ (I.tok _) rw')
theorem dg_in {Q : Value → Shared → Prop} (hu : A.units + 1 < cLine) (I : Inv X pins σ H s) (g : DG (XK X) H a y o) (ry : RelV y u) (h : ∀ s', Inv X pins σ H s' → Q (.bool o.isSome) s') : wpAny (model X.prog X.w) A (compareOp .In u (.ref a)) Q E s := by
  rcases g with ⟨kvs, k, e1, e2, e3⟩ | ⟨xs, ks, b, e1, ⟨kvs, q⟩, rfl, e2, e3⟩
  · exact d_in hu I (.inl ⟨kvs, k, e1, e2, e3⟩) ry h
  · cases (show u = Value.ref b from ry)
    obtain ⟨_, hd, dd⟩ := td_dict I e1 q
    have z := e3.isSome_eq
    rw [Option.isSome_map] at z
    exact wpAny_in_heap (tupleKind_room_in1 hu) (key_sq I e2) hd dd (by rw [← z]; exact h _ (I.tok _))
theorem dg_notIn {Q : Value → Shared → Prop} (hu : A.units + 1 < cLine) (I : Inv X pins σ H s) (g : DG (XK X) H a y o) (ry : RelV y u) (h : ∀ s', Inv X pins σ H s' → Q (.bool (!o.isSome)) s') : wpAny (model X.prog X.w) A (compareOp .NotIn u (.ref a)) Q E s := by
  rcases g with ⟨kvs, k, e1, e2, e3⟩ | ⟨xs, ks, b, e1, ⟨kvs, q⟩, rfl, e2, e3⟩
  · exact d_notIn hu I (.inl ⟨kvs, k, e1, e2, e3⟩) ry h
  · cases (show u = Value.ref b from ry)
    obtain ⟨_, hd, dd⟩ := td_dict I e1 q
    have z := e3.isSome_eq
    rw [Option.isSome_map] at z
    exact wpAny_notIn_heap (tupleKind_room_in1 hu) (key_sq I e2) hd dd (by rw [← z]; exact h _ (I.tok _))
theorem dg_get1 {Q : Value → Shared → Prop} (hu : A.units + 1 < cLine) (I : Inv X pins σ H s) (g : DG (XK X) H a y o) (ry : RelV y u) (h : ∀ w' s', Inv X pins σ H s' → RelV (o.getD .non) w' → Q w' s') : wpAny (model X.prog X.w) A (call (.builtin "dict.get") [.ref a, u]) Q E s := by
  rcases g with ⟨kvs, k, e1, e2, e3⟩ | ⟨xs, ks, b, e1, ⟨kvs, q⟩, rfl, e2, e3⟩
  · exact d_get1 hu I (.inl ⟨kvs, k, e1, e2, e3⟩) ry h
  · cases (show u = Value.ref b from ry)
    obtain ⟨_, hd, dd⟩ := td_dict I e1 q
    exact call_meetsIn PySem.F.slot_dict_get dd.typeIs PySem.F.entry_dict_get (PySem.F.args_dict_get_2 _ _) (meetsH_dict_get (tupleKind (mixKind X.prog X.w)) a b hd) ⟨tupleKind_room_in1 hu, ks, xs, key_sq I e2, dd, h _ _ (I.tok _) (e3.getD rfl)⟩
theorem dg_get2 {Q : Value → Shared → Prop} (hu : A.units + 1 < cLine) (I : Inv X pins σ H s) (g : DG (XK X) H a y o) (ry : RelV y u) (rd : RelV d r) (h : ∀ w' s', Inv X pins σ H s' → RelV (o.getD d) w' → Q w' s') : wpAny (model X.prog X.w) A (call (.builtin "dict.get") [.ref a, u, r]) Q E s := by
  rcases g with ⟨kvs, k, e1, e2, e3⟩ | ⟨xs, ks, b, e1, ⟨kvs, q⟩, rfl, e2, e3⟩
  · exact d_get2 hu I (.inl ⟨kvs, k, e1, e2, e3⟩) ry rd h
  · cases (show u = Value.ref b from ry)
    obtain ⟨_, hd, dd⟩ := td_dict I e1 q
    exact call_meetsIn PySem.F.slot_dict_get dd.typeIs PySem.F.entry_dict_get (PySem.F.args_dict_get_3 _ _ _) (meetsH_dict_get_default (tupleKind (mixKind X.prog X.w)) a b hd r) ⟨tupleKind_room_in1 hu, ks, xs, key_sq I e2, dd, h _ _ (I.tok _) (e3.getD rd)⟩
/-- a store -/
def DP (K : KP) (H : Hp) (a : Addr) (y v : V) (Q : Hp → Prop) : Prop :=
  (∃ kvs k, H a = some (.dK kvs) ∧ y = kV k ∧ kvs.length < sizeLine ∧ Q (upd H a (.dK (putK kvs k v)))) ∨
    ∃ xs ks b, H a = some (TD K a xs) ∧ (∃ kvs, KS K.K H xs kvs) ∧ y = .ref b ∧ SqT K.K H b (ks.map kV) ∧ xs.length < sizeLine ∧ ∀ r, RelV v r → Q (upd H a (TD K a (storedH xs ks b r)))
theorem storedH_len {xs : TE3} {k : List Key} {a : Addr} {v : Value} : (storedH xs k a v).length ≤ xs.length + 1 := by
  unfold storedH
  split <;> simp
theorem dp_setItem {Q : Hp → Prop} {R : Unit → Shared → Prop} (hu : A.units + 1 < cLine) (I : Inv X pins σ H s) (g : DP (XK X) H a y v Q) (ry : RelV y u) (rv : RelV v r) (h : ∀ s' H', Inv X pins σ H' s' → Q H' → R () s') : wpAny (model X.prog X.w) A (setItem (.ref a) u r) R E s := by
  rcases g with ⟨kvs, k, e1, e2, e3, q⟩ | ⟨xs, ks, b, e1, ⟨kvs, qs⟩, rfl, e2, e3, q⟩
  · exact d_setItem hu I (.inl ⟨kvs, k, e1, e2, e3, rfl⟩) ry rv fun s' I' => h s' _ I' q
  · cases (show u = Value.ref b from ry)
    obtain ⟨hz, hd, dd⟩ := td_dict I (.inl e1) qs
    refine wpAny_setItem_heap (hsz := hz) (tupleKind_room_in1 hu) (key_sq I e2) dd fun h' dd' hs => h _ _ ?_ (q r rv)
    obtain ⟨ob, es, ep, hq, h2, h3, h4, _, h5⟩ := dd'
    exact d_write I (by rw [e1]; exact True.intro) hs ⟨ob, hq⟩ (td_new ⟨Nat.le_trans storedH_len e3, hd, ob, es, ep, hq, h2, h3, h4, h5⟩)
end

section
variable {S : SC} {W : Wd} {σ : L2.St}
/-- a dict -/
def dctB (M : Mem) (d : D) : Option (Bool × List (D × D)) := match res M d with
  | .dct t l => some (t, l)
  | _ => none
def lookB (t : Bool) (l : List (D × D)) (k : D) : Option (Option D) := match t with
  | false => (toK k).map (findG toK l)
  | true => (toKT k).map (findG toKT l)
def putB (t : Bool) (l : List (D × D)) (k d : D) : Option (List (D × D)) := match t with
  | false => (toK k).map fun q => putG toK l q k d
  | true => (toKT k).map fun q => putG toKT l q k d
theorem dct_run {K : KP} {v : V} {d : D} {t : Bool} {l : List (D × D)} (k : Ok K W) (r : Rp K W v d) (h : dctB W.M d = some (t, l)) :
    ∃ a, v = .ref a ∧ ((t = false ∧ ∃ kvs, Rd W.H a (.dK kvs) ∧ RpK K W kvs l) ∨ (t = true ∧ ∃ xs kvs, Rd W.H a (TD K a xs) ∧ KS K.K W.H xs kvs ∧ RpT K W kvs l)) := by
  unfold dctB at h
  cases d with
  | ref n =>
    cases r with
    | ref hb =>
      obtain ⟨o, ho, ok⟩ := k.at hb
      simp only [res, ho] at h
      cases o with
      | lst l' => cases h
      | dct t' l' =>
        cases h
        cases t
        · obtain ⟨kvs, h1, h2⟩ := ok
          exact ⟨_, rfl, .inl ⟨rfl, kvs, .inl h1, h2⟩⟩
        · obtain ⟨xs, kvs, h1, h2, h3⟩ := ok
          exact ⟨_, rfl, .inr ⟨rfl, xs, kvs, .inl h1, h2, h3⟩⟩
      | ins C fs => cases h
      | dead => cases h
  | dct t' l' =>
    cases h
    cases r with
    | dK h1 f r => exact ⟨_, rfl, .inl ⟨rfl, _, h1, r⟩⟩
    | dT h1 f q r => exact ⟨_, rfl, .inr ⟨rfl, _, _, h1, q, r⟩⟩
  | _ => cases h
theorem look_run {K : KP} {v y : V} {d k : D} {t : Bool} {l : List (D × D)} {o : Option D} (ok : Ok K W) (r : Rp K W v d) (ry : Rp K W y k) (h : dctB W.M d = some (t, l)) (hl : lookB t l k = some o) :
    ∃ a o', v = .ref a ∧ DG K W.H a y o' ∧ (∀ d, o = some d → ∃ u, o' = some u ∧ Rp K W u d) ∧ (o = none → o' = none) := by
  obtain ⟨a, rfl, h⟩ := dct_run ok r h
  rcases h with ⟨rfl, kvs, h1, h2⟩ | ⟨rfl, xs, kvs, h1, h2, h3⟩
  · obtain ⟨q, hq, ho⟩ := Option.map_eq_some_iff.mp (show (toK k).map (findG toK l) = some o from hl)
    obtain ⟨f1, f2⟩ := findG_k (k := q) h2
    refine ⟨a, valV kvs q, rfl, .inl ⟨kvs, q, h1, (toK_run ry hq).1, rfl⟩, fun d e => f1 d (by rw [ho, e]), fun e => f2 (by rw [ho, e])⟩
  · obtain ⟨q, hq, ho⟩ := Option.map_eq_some_iff.mp (show (toKT k).map (findG toKT l) = some o from hl)
    obtain ⟨f1, f2⟩ := findG_t (k := q) h2 h3
    obtain ⟨_, b, hb, hs⟩ := toKT_run ry hq
    cases o with
    | none => exact ⟨a, none, rfl, .inr ⟨xs, q, b, h1, ⟨kvs, h2⟩, hb, hs, (by rw [f2 ho]; exact True.intro)⟩, (fun d e => by cases e), fun _ => rfl⟩
    | some d =>
      obtain ⟨p, u, e1, e2, e3⟩ := f1 d ho
      refine ⟨a, some u, rfl, .inr ⟨xs, q, b, h1, ⟨kvs, h2⟩, hb, hs, by rw [e1]; exact e2⟩, fun d' e => by cases e; exact ⟨u, rfl, e3⟩, fun e => by cases e⟩
def rIxD' (K : KP) : R2 := fun x y H Q => ∃ a v, x = .ref a ∧ DG K H a y (some v) ∧ Q v H
theorem dg_type {X : Cx} {pins : List (Addr × Obj)} {σ : L2.St} {H : Hp} {s : Shared} {a : Addr} {y : V} {o : Option V} {K : KP} (I : Inv X pins σ H s) (g : DG K H a y o) : s.TypeIs (.ref a) "dict" := by
  rcases g with ⟨kvs, k, e1, _⟩ | ⟨xs, ks, b, e1, _⟩
  · exact (tyG_dict (K := K) pins σ H s (.ref a) (.ref a) I rfl ⟨a, rfl, .inl ⟨kvs, e1⟩⟩).1
  · exact (tyG_dict (K := K) pins σ H s (.ref a) (.ref a) I rfl ⟨a, rfl, .inr ⟨xs, e1⟩⟩).1
theorem sub_tail {prog : Program} {w : World} {A : Around} {E : Value → Shared → Prop} {s : Shared} {value slice : Expr} {T id : String} {o i : Value} {Q : Value → Shared → Prop} (hT : s.TypeIs o T)
    (hl : typeLookup (.type T) "__getitem__" = pure (some (.builtin id))) (hs : subscripted slice false o i = operate [o, i] (getItem o i)) (h : wpAny (model prog w) A (getItem o i) Q E s) : wpAny (model prog w) A (subscriptTail value slice o i) Q E s := by
  unfold subscriptTail
  refine wpAny_bind ?_
  rw [getitemInPython_of_ne hT.not_modules]
  refine wpAny_bind (wpAny_specialOf hT hl ?_)
  have z : wpAny (model prog w) A (subscripted slice false o i) (fun r s₃ => wpAny (model prog w) A (letTemporaryGo value o r >>= fun _ => pure r) Q E s₃) E s := by
    rw [hs]
    exact wpAny_operating (wpAny_mono h (fun r s₃ h₃ => wpAny_bind (wpAny_letTemporaryGo (wpAny_pure h₃))) fun _ _ x => x)
  first
    | exact wpAny_pure (wpAny_bind z)
    | exact wpAny_bind z
    | exact wpAny_pure z
    | exact z
theorem ix_dict {X : Cx} (hu : X.A.units + 1 < cLine) : IxR X (rIxD' (XK X)) := by
  intro value slice pins s σ H x y v u Q I rx ry h hs
  obtain ⟨a, z, rfl, g, q⟩ := h
  cases rx
  exact sub_tail (dg_type I g) PySem.F.slot_dict_getitem.lookup hs (dg_getItem hu I g ry fun w' s' I' r' => ⟨z, H, I', r', q⟩)
def subD' (a b : D) : Mo D := fun M => match res M a with
  | .tup l => match b with
    | .int i => match atD l i with
      | some d => some (.ok d, M)
      | none => none
    | _ => none
  | .lst l => match b with
    | .int i => match atD l i with
      | some d => some (.ok d, M)
      | none => none
    | _ => none
  | .str x => match b with
    | .int i => if x.length ≤ sizeLine then (match atI x.cps.toList i with
      | some c => some (.ok (.str ⟨#[c]⟩), M)
      | none => none) else none
    | _ => none
  | .dct t l => match lookB t l b with
    | some (some d) => some (.ok d, M)
    | _ => none
  | _ => none
def rIxA (K : KP) : R2 := fun x y H Q => rIx K.K x y H Q ∨ rIxD' K x y H Q
theorem ex_sub {a b : Expr} {fa fb : En → Mo D} {pos : Pos} (ha : EX S a fa) (hb : EX S b fb) (hs : PlainIx b := by intros _ _; rfl) : EX S (.Subscript a b pos) (fun ρ => .bnd (fa ρ) fun a => .bnd (fb ρ) fun b => subD' a b) := by
  obtain ⟨ta, a1, a2⟩ := ha.ex
  obtain ⟨tb, b1, b2⟩ := hb.ex
  refine ⟨tOp (rIxA S.K) ta tb, fun X c => pe_ix (by
    have z := (ix_seq (X := X)).or (ix_dict (by have := hu_of' c; omega))
    unfold XK at z
    rw [c.P, c.w, c.K] at z
    exact z) (a1 X c) (b1 X c) hs, sem_op a2 b2 fun W σ x y a b Q k rx ry h => ?_⟩
  unfold subD' at h
  split at h
  · rename_i l e
    split at h
    · rename_i i
      split at h
      · rename_i d hd
        obtain ⟨p, xs, rfl, h1, h2⟩ := res_tup rx e
        obtain ⟨v, h3, h4⟩ := atD_run h2 hd
        exact .inl (.inr (.inl ⟨p, xs, i, v, rfl, rp_int ry, h1, h3, post_ok k h v h4⟩))
      · exact h.elim
    · exact h.elim
  · rename_i l e
    split at h
    · rename_i i
      split at h
      · rename_i d hd
        obtain ⟨p, xs, rfl, h1, h2⟩ := rd_lst k rx e
        obtain ⟨v, h3, h4⟩ := atD_run h2 hd
        exact .inl (.inl ⟨p, xs, i, v, rfl, rp_int ry, h1, h3, post_ok k h v h4⟩)
      · exact h.elim
    · exact h.elim
  · rename_i x e
    split at h
    · rename_i i
      split at h
      · rename_i hl
        split at h
        · rename_i c hc
          exact .inl (.inr (.inr ⟨x, i, c, res_str rx e, rp_int ry, hl, hc, post_ok k h _ (.str _)⟩))
        · exact h.elim
      · exact h.elim
    · exact h.elim
  · rename_i t l e
    split at h
    · rename_i d hd
      obtain ⟨p, o', rfl, g, q1, q2⟩ := look_run k rx ry (show dctB W.M a = some (t, l) by unfold dctB; rw [e]) hd
      obtain ⟨u, rfl, ru⟩ := q1 d rfl
      exact .inr ⟨p, u, rfl, g, post_ok k h u ru⟩
    · exact h.elim
  · exact h.elim

structure PX (S : SC) (e : Option Expr) (f : En → Mo (Option Int)) : Prop where
  ex : ∃ t : TO, (∀ X, InC S X → PO X e t) ∧ ∀ (W : Wd) (σ : L2.St) (ρ : En) (Q : Option Int → Hp → Prop), Ok S.K W → StR S.K W σ ρ → Post S W σ (f ρ W.M) (fun o W' => Q o W'.H) → t σ W.H Q
theorem px_none : PX S none (fun _ => .ret none) := ⟨tNoPart, fun X c => po_none, fun W σ ρ Q k st h => Post.ret k h⟩
def partD (d : D) : Mo (Option Int) := match d with
  | .int i => .ret (some i)
  | _ => .stuck
theorem px_some {e : Expr} {f : En → Mo D} (h : EX S e f) : PX S (some e) (fun ρ => .bnd (f ρ) partD) := by
  obtain ⟨t, h1, h2⟩ := h.ex
  refine ⟨tPart t, fun X c => po_some (h1 X c), fun W σ ρ Q k st h => h2 W σ ρ _ k st (Post.imp (Post.bnd h) fun d W1 l1 k1 q v rv => ?_)⟩
  cases d with
  | int i => exact ⟨i, rp_int rv, Post.ret k1 q⟩
  | _ => exact (show False from q).elim
def cutD (l : List D) (lo hi : Option Int) : List D := (l.drop (HT.sIx l.length 0 lo)).take (HT.sIx l.length l.length hi - HT.sIx l.length 0 lo)
theorem cut_run {K : KP} {xs : List V} {l : List D} {lo hi : Option Int} (r : RpA K W xs l) : RpA K W (cutV xs lo hi) (cutD l lo hi) := by
  unfold cutV cutD
  rw [r.length]
  exact (r.drop _).take _
def sliceD (a : D) (lo hi : Option Int) : Mo D := fun M => match res M a with
  | .tup l => some (.ok (.tup (cutD l lo hi)), M)
  | .lst l => some (.ok (.lst (cutD l lo hi)), M)
  | .str z => if z.length ≤ sizeLine then some (.ok (.str (Txt.slice z lo hi)), M) else none
  | _ => none
theorem cut_all {l : List D} {lo hi : Option Int} (h : HT.sIx l.length 0 lo = 0 ∧ HT.sIx l.length l.length hi = l.length) : cutD l lo hi = l := by
  unfold cutD
  rw [h.1, h.2]
  simp
theorem ex_slice {e : Expr} {lo hi : Option Expr} {fe : En → Mo D} {fl fh : En → Mo (Option Int)} {pos p2 : Pos} (he : EX S e fe) (hl : PX S lo fl) (hh : PX S hi fh) :
    EX S (.Subscript e (.Slice lo hi none p2) pos) (fun ρ => .bnd (fe ρ) fun a => .bnd (fl ρ) fun l => .bnd (fh ρ) fun h => sliceD a l h) := by
  obtain ⟨te, e1, e2⟩ := he.ex
  obtain ⟨tl, l1, l2⟩ := hl.ex
  obtain ⟨th, h1, h2⟩ := hh.ex
  refine ⟨_, fun X c => pe_slice (by have z := (sl_tupA (X := X)).or (sl_list.or C8.sl_txt); rw [c.K] at z; exact z) (e1 X c) (l1 X c) (h1 X c), fun W σ ρ Q k st h => ?_⟩
  refine e2 W σ ρ _ k st (Post.imp (Post.bnd h) fun a W1 q1 k1 h v rv => ?_)
  refine l2 W1 σ ρ _ k1 (st.mono q1) (Post.imp (Post.bnd h) fun l W2 q2 k2 h => ?_)
  refine h2 W2 σ ρ _ k2 ((st.mono q1).mono q2) (Post.imp (Post.bnd h) fun u W3 q3 k3 h => ?_)
  have rv := (rv.mono q2).mono q3
  have h : Post S W3 σ (sliceD a l u W3.M) (PV S Q) := h
  unfold sliceD at h
  split at h
  · rename_i ds e
    obtain ⟨p, xs, rfl, s1, r1⟩ := res_tup rv e
    refine .inl ⟨p, xs, rfl, s1, fun hw => ?_, fun hw q hq => ?_⟩
    · rw [r1.length] at hw
      rw [cut_all hw] at h
      exact post_ok k3 h _ (.tup s1 r1)
    · exact post_layT k3 (cut_run r1) h q hq
  · rename_i ds e
    obtain ⟨p, xs, rfl, s1, r1⟩ := rd_lst k3 rv e
    exact .inr (.inl ⟨p, xs, rfl, s1, post_lay k3 (cut_run r1) h⟩)
  · rename_i z e
    split at h
    · rename_i hl
      exact .inr (.inr ⟨z, res_str rv e, hl, post_ok k3 h _ (.str _)⟩)
    · exact h.elim
  · exact h.elim

def inAll (x y : D) : Mo D := fun M => match dctB M y with
  | some (t, l) => match lookB t l x with
    | some o => some (.ok (.bl o.isSome), M)
    | none => none
  | none => inD x y M
def ninAll (x y : D) : Mo D := fun M => match dctB M y with
  | some (t, l) => match lookB t l x with
    | some o => some (.ok (.bl (!o.isSome)), M)
    | none => none
  | none => ninD x y M
def rInDict (K : KP) (neg : Bool) : R2 := fun x y H Q => ∃ a o, y = .ref a ∧ DG K H a x o ∧ Q (.bl (if neg then !o.isSome else o.isSome)) H
theorem op_inDict {X : Cx} (hu : X.A.units + 1 < cLine) : OpR X (compareOp .In) (rInDict (XK X) false) := by
  intro pins s σ H x y v u Q I rx ry h
  obtain ⟨a, o, rfl, g, q⟩ := h
  cases ry
  exact dg_in hu I g rx fun s' I' => ⟨.bl _, H, I', rfl, q⟩
theorem op_ninDict {X : Cx} (hu : X.A.units + 1 < cLine) : OpR X (compareOp .NotIn) (rInDict (XK X) true) := by
  intro pins s σ H x y v u Q I rx ry h
  obtain ⟨a, o, rfl, g, q⟩ := h
  cases ry
  exact dg_notIn hu I g rx fun s' I' => ⟨.bl _, H, I', rfl, q⟩
theorem isSome_look {K : KP} {o : Option D} {o' : Option V} (q1 : ∀ d, o = some d → ∃ u, o' = some u ∧ Rp K W u d) (q2 : o = none → o' = none) : o'.isSome = o.isSome := by
  cases o with
  | none => rw [q2 rfl]; rfl
  | some d => obtain ⟨u, h, _⟩ := q1 d rfl; rw [h]; rfl
theorem ox_inA : OX S (compareOp .In) inAll := by
  obtain ⟨r, h1, h2⟩ := (ox_in (S := S)).ex
  refine ⟨⟨fun x y H Q => r x y H Q ∨ rInDict S.K false x y H Q, fun X c => (h1 X c).or (by
    have z := op_inDict (X := X) (by have := hu_of' c; omega)
    unfold XK at z
    rw [c.P, c.w, c.K] at z
    exact z), fun W σ x y a b Q k rx ry h => ?_⟩⟩
  unfold inAll at h
  split at h
  · rename_i t l e
    split at h
    · rename_i o ho
      obtain ⟨p, o', rfl, g, q1, q2⟩ := look_run k ry rx e ho
      refine .inr ⟨p, o', rfl, g, ?_⟩
      rw [if_neg Bool.false_ne_true, isSome_look q1 q2]
      exact post_ok k h _ (.bl _)
    · exact h.elim
  · exact .inl (h2 W σ x y a b Q k rx ry h)
theorem ox_ninA : OX S (compareOp .NotIn) ninAll := by
  obtain ⟨r, h1, h2⟩ := (ox_nin (S := S)).ex
  refine ⟨⟨fun x y H Q => r x y H Q ∨ rInDict S.K true x y H Q, fun X c => (h1 X c).or (by
    have z := op_ninDict (X := X) (by have := hu_of' c; omega)
    unfold XK at z
    rw [c.P, c.w, c.K] at z
    exact z), fun W σ x y a b Q k rx ry h => ?_⟩⟩
  unfold ninAll at h
  split at h
  · rename_i t l e
    split at h
    · rename_i o ho
      obtain ⟨p, o', rfl, g, q1, q2⟩ := look_run k ry rx e ho
      refine .inr ⟨p, o', rfl, g, ?_⟩
      rw [if_pos rfl, isSome_look q1 q2]
      exact post_ok k h _ (.bl _)
    · exact h.elim
  · exact .inl (h2 W σ x y a b Q k rx ry h)

def isDc (M : Mem) (d : D) : Bool := (dctB M d).isSome
theorem isD_ty {x : V} {a : D} (k : Ok S.K W) (r : Rp S.K W x a) (h : isDc W.M a = true) : tyD S.K x W.H := by
  unfold isDc at h
  cases e : dctB W.M a with
  | none => rw [e] at h; cases h
  | some p =>
    obtain ⟨t, l⟩ := p
    obtain ⟨q, rfl, h⟩ := dct_run k r e
    rcases h with ⟨_, kvs, h1, _⟩ | ⟨_, xs, kvs, h1, _⟩
    · exact ⟨q, rfl, .inl ⟨kvs, h1⟩⟩
    · exact ⟨q, rfl, .inr ⟨xs, h1⟩⟩
def getD' (a : D) : List D → Mo D
  | [k] => fun M => match dctB M a with
    | some (t, l) => match lookB t l k with
      | some o => some (.ok (o.getD .non), M)
      | none => none
    | none => none
  | [k, d] => fun M => match dctB M a with
    | some (t, l) => match lookB t l k with
      | some o => some (.ok (o.getD d), M)
      | none => none
    | none => none
  | _ => .stuck
def rGetD (K : KP) : V → List V → Hp → VK → Prop := fun x xs H Q => ∃ a y o, x = .ref a ∧ DG K H a y o ∧ ((xs = [y] ∧ Q (o.getD .non) H) ∨ ∃ z, xs = [y, z] ∧ Q (o.getD z) H)
theorem mt_getD {X : Cx} (hu : X.A.units + 1 < cLine) : MtR X "dict.get" (rGetD (XK X)) := by
  intro pins s σ H x xs v us Q I rx rs h
  obtain ⟨a, y, o, rfl, g, h⟩ := h
  cases rx
  rcases h with ⟨rfl, q⟩ | ⟨z, rfl, q⟩
  · obtain ⟨u, rfl, ry⟩ := vals1 rs
    exact dg_get1 hu I g ry fun w' s' I' r' => ⟨_, H, I', r', q⟩
  · obtain ⟨u, u', rfl, ry, rz⟩ := vals2 rs
    exact dg_get2 hu I g ry rz fun w' s' I' r' => ⟨_, H, I', r', q⟩
theorem getD_look {K : KP} {o : Option D} {o' : Option V} {z : V} {d : D} (q1 : ∀ d, o = some d → ∃ u, o' = some u ∧ Rp K W u d) (q2 : o = none → o' = none) (rz : Rp K W z d) : Rp K W (o'.getD z) (o.getD d) := by
  cases o with
  | none => rw [q2 rfl]; exact rz
  | some d => obtain ⟨u, h, r⟩ := q1 d rfl; rw [h]; exact r
theorem mx_get : MX S "dict" "get" isDc getD' := by
  refine ⟨⟨"dict.get", tyD S.K, rGetD S.K, PySem.F.plainAttrs_dict, PySem.F.slot_dict_get, PySem.F.type_dict_get, fun X c => ⟨tyG_dict, ?_⟩, fun W x a k r h => isD_ty k r h, fun W σ x xs a as Q k r rs h => ?_⟩⟩
  · have z := mt_getD (X := X) (by have := hu_of' c; omega)
    unfold XK at z
    rw [c.P, c.w, c.K] at z
    exact z
  · unfold getD' at h
    split at h
    · cases rs with
      | cons ry rn =>
        cases rn
        split at h
        · rename_i t l e
          split at h
          · rename_i o ho
            obtain ⟨p, o', rfl, g, q1, q2⟩ := look_run k r ry e ho
            exact ⟨p, _, o', rfl, g, .inl ⟨rfl, post_ok k h _ (getD_look q1 q2 .non)⟩⟩
          · exact h.elim
        · exact h.elim
    · cases rs with
      | cons ry rn =>
        cases rn with
        | cons rz rn =>
          cases rn
          split at h
          · rename_i t l e
            split at h
            · rename_i o ho
              obtain ⟨p, o', rfl, g, q1, q2⟩ := look_run k r ry e ho
              exact ⟨p, _, o', rfl, g, .inr ⟨_, rfl, post_ok k h _ (getD_look q1 q2 rz)⟩⟩
            · exact h.elim
          · exact h.elim
    · exact (show False from h).elim

def curD (M : Mem) (d : D) : Option (Nat × Bool × List (D × D)) := match d with
  | .ref n => match M[n]? with
    | some (.dct t l) => some (n, t, l)
    | _ => none
  | _ => none
/-- o[i] = v: the memory behind it -/
def storeB (M : Mem) (o i v : D) : Option Mem := match o with
  | .ref n => match M[n]? with
    | some (.lst l) => match i with
      | .int j => match ixN l.length j with
        | some q => some (M.set n (.lst (l.set q v)))
        | none => none
      | _ => none
    | some (.dct t l) => if l.length < sizeLine then (putB t l i v).map fun l' => M.set n (.dct t l') else none
    | _ => none
  | _ => none
def rSetA (K : KP) : TSet := fun o i v H Q => rSetL o i v H Q ∨ ∃ a, o = .ref a ∧ DP K H a i v Q
theorem set_all {X : Cx} (hu : X.A.units + 1 < cLine) : PSet X (rSetA (XK X)) := by
  intro pins s σ H o i v ov iv u Q I ro ri rv h
  rcases h with h | ⟨a, rfl, g⟩
  · exact set_list pins s σ H o i v ov iv u Q I ro ri rv h
  · cases ro
    exact dp_setItem hu I g ri rv fun s' H' I' q => ⟨H', I', q⟩
theorem set_run {x y z : V} {o i v : D} {M' : Mem} {Q : Hp → Prop} (k : Ok S.K W) (rx : Rp S.K W x o) (ry : Rp S.K W y i) (rz : Rp S.K W z v) (h : storeB W.M o i v = some M') (q : ∀ W', Le S.K W W' → Ok S.K W' → W'.M = M' → Q W'.H) : rSetA S.K x y z W.H Q := by
  unfold storeB at h
  split at h
  · rename_i n
    cases rx with
    | @ref _ p hb =>
      split at h
      · rename_i l hm
        obtain ⟨xs, h1, h2⟩ := k.ob _ _ _ hb hm
        split at h
        · rename_i j
          split at h
          · rename_i m hj
            cases h
            have le := le_put (K := S.K) (ho := .lst (xs.set m z)) (o := .lst (l.set m v)) k hb hm (by intro q; cases q)
            refine .inl ⟨p, xs, j, m, rfl, rp_int ry, h1, by rw [h2.length]; exact hj, ?_⟩
            exact q (W.put n p (.lst (xs.set m z)) (.lst (l.set m v))) le (k.put hb hm (by intro q; cases q) ⟨_, upd_same, (h2.set m rz).mono le⟩) rfl
          · cases h
        · cases h
      · rename_i t l hm
        split at h
        · rename_i hlen
          obtain ⟨l', hp, e⟩ := Option.map_eq_some_iff.mp h
          subst e
          cases t
          · obtain ⟨kvs, h1, h2⟩ := k.ob _ _ _ hb hm
            obtain ⟨kk, hk, e⟩ := Option.map_eq_some_iff.mp (show (toK i).map (fun q => putG toK l q i v) = some l' from hp)
            subst e
            obtain ⟨e1, e2⟩ := toK_run ry hk
            have le := le_put (K := S.K) (ho := .dK (putK kvs kk z)) (o := .dct false (putG toK l kk i v)) k hb hm (by intro q; cases q)
            refine .inr ⟨p, rfl, .inl ⟨kvs, kk, h1, e1, by rw [rpk_len h2]; exact hlen, ?_⟩⟩
            subst e2
            exact q (W.put n p (.dK (putK kvs kk z)) (.dct false (putG toK l kk (kD kk) v))) le (k.put hb hm (by intro q; cases q) ⟨_, upd_same, (putG_k h2 rz).mono le⟩) rfl
          · obtain ⟨xs, kvs, h1, h2, h3⟩ := k.ob _ _ _ hb hm
            obtain ⟨kk, hk, e⟩ := Option.map_eq_some_iff.mp (show (toKT i).map (fun q => putG toKT l q i v) = some l' from hp)
            subst e
            obtain ⟨e1, b, e2, e3⟩ := toKT_run ry hk
            refine .inr ⟨p, rfl, .inr ⟨xs, kk, b, h1, ⟨kvs, h2⟩, e2, e3, by rw [h2.length, rpt_len h3]; exact hlen, fun r hr => ?_⟩⟩
            obtain ⟨kvs', g1, g2⟩ := putG_t h2 h3 e3 hr rz
            have le := le_put (K := S.K) (ho := TD S.K p (storedH xs kk b r)) (o := .dct true (putG toKT l kk i v)) k hb hm (by intro q; cases q)
            subst e1
            exact q (W.put n p (TD S.K p (storedH xs kk b r)) (.dct true (putG toKT l kk (ktD kk) v))) le (k.put hb hm (by intro q; cases q) ⟨_, kvs', upd_same, g1.mono le.t, g2.mono le⟩) rfl
        · cases h
      · cases h
  · cases h
def storeM (o i v : D) (ρ : En) : Mo En := fun M => match storeB M o i v with
  | some M' => some (.ok ρ, M')
  | none => none
/-- the target o[i] -/
theorem gx_sub {o i : Expr} {fo fi : En → Mo D} {pos : Pos} (ho : EX S o fo) (hi : EX S i fi)
    (ha : ∀ (env : PySem.Env) v, assign (.Subscript o i pos) env v = (do
      let ov ← holding [v] (eval o env)
      let iv ← holding [v, ov] (eval i env)
      standAt pos
      holding [v, ov, iv] (setItem ov iv v)
      release [v, ov, iv] []) := by intros; rfl) : GX S (.Subscript o i pos) (fun d ρ => .bnd (fo ρ) fun a => .bnd (fi ρ) fun b => storeM a b d ρ) := by
  obtain ⟨to, o1, o2⟩ := ho.ex
  obtain ⟨ti, i1, i2⟩ := hi.ex
  refine ⟨gSub to ti (rSetA S.K), fun X c => pg_sub (o1 X c) (i1 X c) (by
    have z := set_all (X := X) (by have := hu_of' c; omega)
    unfold XK at z
    rw [c.P, c.w, c.K] at z
    exact z) (ha X.env), fun W σ ρ v d Q k st rv h => ?_⟩
  refine o2 W σ ρ _ k st (Post0.post (Post0.imp (Post0.bnd h) fun a W1 l1 k1 h1 x rx => ?_))
  refine i2 W1 σ ρ _ k1 (st.mono l1) (Post0.post (Post0.imp (Post0.bnd h1) fun b W2 l2 k2 h2 y ry => ?_))
  have h2 : Post0 S W2 (storeM a b d ρ W2.M) (PR S Q) := h2
  unfold storeM at h2
  split at h2
  · rename_i M' e
    exact set_run k2 (rx.mono l2) ry ((rv.mono l1).mono l2) e fun W' l' k' m' => h2 W' l' k' m' σ (((st.mono l1).mono l2).mono l')
  · exact h2.elim
end
end DL
namespace DL
open PySem PySem.Spec PyProof.Rows L2

/-- sizes, as the heap keeps them -/
structure SzH (K : KP) (H : Hp) : Prop where
  l : ∀ a xs, SqL K.K H a xs → xs.length ≤ sizeLine
  t : ∀ a xs, SqT K.K H a xs → xs.length ≤ sizeLine
  k : ∀ a kvs, Rd H a (.dK kvs) → kvs.length ≤ sizeLine
  kt : ∀ a xs, Rd H a (TD K a xs) → xs.length ≤ sizeLine
theorem szH {X : Cx} {pins : List (Addr × Obj)} {σ : L2.St} {H : Hp} {s : Shared} (I : Inv X pins σ H s) (t : List Addr) (m : List (Addr × Str)) : SzH ⟨X.prog, X.w, X.K, t, m⟩ H where
  l := fun a xs h => let ⟨_, _, _, q⟩ := I.list h; q
  t := fun a xs h => let ⟨_, _, _, q⟩ := I.tuple h; q
  k := fun a kvs h => (dk_rd I.hok h).1
  kt := fun a xs h => (td_at I h).1
theorem pi_kn {X : Cx} {tg iter : Expr} {wi : TI} (t : List Addr) (m : List (Addr × Str)) (h : PI X tg iter wi) : PI X tg iter (fun σ H R => wi σ H fun J H1 => SzH ⟨X.prog, X.w, X.K, t, m⟩ H1 → R J H1) := by
  refine ⟨fun pins s σ H R I q => ?_⟩
  refine thn (h.run pins s σ H _ I q) fun v s1 z => thn z fun itv s2 ⟨it, fp, tn, J, H', e1, I', T, t0, f, r⟩ => ?_
  exact ⟨it, fp, tn, J, H', e1, I', T, t0, f, r (szH I' t m)⟩
section
variable {S : SC}
def SemI0 (S : SC) (wi : TI) (f : En → Mo Itd') : Prop := ∀ (W : Wd) (σ : L2.St) (ρ : En) (R : It → Hp → Prop), Ok S.K W → StR S.K W σ ρ → Post S W σ (f ρ W.M) (fun it W' => ∀ J, (SzH S.K W'.H → ItOk S W' J it) → R J W'.H) → wi σ W.H R
theorem ix_mk {tg iter : Expr} {wi : TI} {f : En → Mo Itd'} (h : ∀ X, InC S X → PI X tg iter wi) (sem : SemI0 S wi f) : IX S tg iter f := by
  refine ⟨fun σ H R => wi σ H fun J H1 => SzH S.K H1 → R J H1, fun X c => ?_, fun W σ ρ R k st q => sem W σ ρ _ k st (Post.imp q fun it W1 l1 k1 z J hJ hs => z J (hJ hs))⟩
  have z := pi_kn (S.cs.map (·.2)) S.ls (h X c)
  rw [c.P, c.w, c.K] at z
  exact z

def Itkd (K : KP) (d : Addr) (o : Obj) (xs : TE3) : It :=
  ⟨fun i H => H d = some (.frz o (TD K d xs)) ∧ i < xs.length, fun i H x H' => H' = H ∧ ∃ k q v, xs[i]? = some (k, q, v) ∧ x = .ref q, fun i H => H d = some (.frz o (TD K d xs)) ∧ xs.length ≤ i⟩
theorem td_frz {X : Cx} {pins : List (Addr × Obj)} {σ : L2.St} {H : Hp} {s : Shared} {d : Addr} {o : Obj} {xs : TE3} (I : Inv X pins σ H s) (h : H d = some (.frz o (TD (XK X) d xs))) :
    (d == sysModules) = false ∧ s.heap.get? d = some o ∧ o.ExactDict ∧ ∃ es ep, o.data = .dict es ep ∧ es.size = xs.length ∧ es.toList = xs.map (entryOfKey (tupleKind (mixKind X.prog X.w))) := by
  obtain ⟨h1, h2, ob, es, ep, h3, h4, h5, h6, h7⟩ := td_at I (.inr ⟨o, h⟩)
  have e : s.heap.get? d = some o := (I.hok d _ h).1
  rw [h3] at e
  cases e
  refine ⟨h2, h3, h4, es, ep, h5, ?_, h6⟩
  have := congrArg List.length h6
  simpa using this
theorem turn_keysD {K' : KP} {P : Program} {w : World} {K : PySem.W.Frag} (hK' : K' = ⟨P, w, K, [], []⟩) {tg : Expr} {d : Addr} {o : Obj} {es : Array DictEntry} {ep : Nat} {xs : TE3} (it : Addr) (hod : o.data = .dict es ep) : Turn P w K tg (Itkd K' d o xs) [it] it (fun i h => h.IsKeyIter it d i xs.length ep) where
  mem := by simp
  obj := fun i h st b hb => by
    have e : b = it := by simpa using hb
    subst e
    obtain ⟨oi, e, c, dd⟩ := st
    exact ⟨oi, e, fun v z => by rw [dd] at z; cases z⟩
  keep := fun i h h' st k => st.at fun oi e => k it (by simp) oi e
  item := by
    intro X hP hw hK hc i pins s σ H E I hf st hg
    subst hP hw hK hK'
    obtain ⟨hd, hi⟩ := hg
    obtain ⟨f0, f1, f2, f3, f4, f5⟩ := hf it (by simp)
    obtain ⟨hs, hgd, hx, es', ep', hdt, hsz, hl⟩ := td_frz I hd
    obtain ⟨rfl, rfl⟩ := dict_ep hod hdt
    obtain ⟨⟨k, q, v⟩, hkv⟩ : ∃ p, xs[i]? = some p := ⟨xs[i], List.getElem?_eq_getElem hi⟩
    have hen : es'[i]? = some (entryOfKey (tupleKind (mixKind X.prog X.w)) (k, q, v)) := by
      rw [← Array.getElem?_toList, hl, List.getElem?_map, hkv]; rfl
    refine next_key_item st hgd hdt hsz hen fun h' st' sb => ?_
    have I1 : Inv X pins σ H { s with heap := h' } := I.turned (t' := s.toks) (fun b ob hb e => (sb.2 b hb).trans e) f0 f1 f3 f4 f5
    obtain ⟨oi, e, c, dd⟩ := id st'
    exact ⟨_, rfl, go_of (s := { s with heap := h' }) e c dd (by decide) ⟨.ref q, H, I1, rfl, ⟨rfl, k, q, v, hkv, rfl⟩, st', fun b hb => (hf b hb).1⟩⟩
  done := by
    intro X hP hw hK hc i pins s σ H E I hf st hg
    subst hP hw hK hK'
    obtain ⟨hd, hi⟩ := hg
    obtain ⟨f0, f1, f2, f3, f4, f5⟩ := hf it (by simp)
    obtain ⟨hs, hgd, hx, es', ep', hdt, hsz, hl⟩ := td_frz I hd
    obtain ⟨rfl, rfl⟩ := dict_ep hod hdt
    exact next_key_end (I.ok.hd hc) st hgd hdt hsz hi fun h' eb => ⟨rfl, I.turned (t' := s.toks) (fun b ob hb e => eb b ob hb e) f0 f1 f3 f4 f5⟩
  self := fun A i s Q E st h => by
    refine wpAny_pyIter_slot st.typeIs F.slot_dict_keyiterator_iter (wpAny_call_entry F.slot_dict_keyiterator_iter st.typeIs F.entry_dict_keyiterator_iter ?_ (F.args_dict_keyiterator_iter_1 _))
    show wpAny _ _ (PySem.ret (.ref it)) _ _ s
    exact wpAny_pure ⟨_, rfl, "dict_keyiterator", _, st.typeIs, F.slot_dict_keyiterator_next.lookup, h⟩
/-- for x in e -/
def iAll (K : KP) (tl : TE) : TI := fun σ H R => tl σ H fun x H1 => (∃ z, x = .str z ∧ R (Its z) H1) ∨ ∃ a, x = .ref a ∧ ((∃ xs, SqL K.K H1 a xs ∧ R (Itl K.K a) H1) ∨ (∃ xs, SqT K.K H1 a xs ∧ R (Itt K.K a) H1) ∨
  (∃ kvs o, H1 a = some (.frz o (.dK kvs)) ∧ R (Itk a o kvs) H1) ∨ (∃ kvs, H1 a = some (.dK kvs) ∧ ∀ o, R (Itk a o kvs) (upd H1 a (.frz o (.dK kvs)))) ∨
  (∃ xs o, H1 a = some (.frz o (TD K a xs)) ∧ R (Itkd K a o xs) H1) ∨ (∃ xs, H1 a = some (TD K a xs) ∧ ∀ o, R (Itkd K a o xs) (upd H1 a (.frz o (TD K a xs)))))
theorem pi_all {X : Cx} {tg l : Expr} {tl : TE} (hl : PE X l tl) : PI X tg l (iAll (XK X) tl) := by
  refine ⟨fun pins s σ H R I h => ?_⟩
  refine thn (hl.run pins s σ H _ I h) fun v s1 ⟨x, H1, I1, r1, q1⟩ => ?_
  rcases q1 with ⟨z, rfl, q⟩ | ⟨a, rfl, q⟩
  · obtain ⟨t, rfl⟩ := r1
    cases ha : z.cps.all (· < 128)
    · exact wpAny_pyIter_wide ha (pi_one (tk := s1.toks) I1 _ (turn_str _ z t "str_iterator" (.inr rfl)) ⟨_, Heap.get?_push_size _ rfl, rfl, rfl⟩ q)
    · exact wpAny_pyIter_ascii ha (pi_one (tk := s1.toks) I1 _ (turn_str _ z t "str_ascii_iterator" (.inl rfl)) ⟨_, Heap.get?_push_size _ rfl, rfl, rfl⟩ q)
  obtain rfl : v = Value.ref a := r1
  have dk : ∀ {H2 : Hp} {o : Obj} {kvs : List (Key × V)}, Inv X pins σ H2 s1 → H2 a = some (.frz o (.dK kvs)) → R (Itk a o kvs) H2 → wpAny (model X.prog X.w) X.A (pyIter (.ref a)) (PIE X pins σ tg R) X.xe s1 := fun I2 hd q => by
    obtain ⟨hs, hgd, hx, es, ep, vs, hdt, hsz, kv, hm⟩ := I2.frzK hd
    refine iter_keys hs hgd hx hdt (pi_one (tk := s1.toks) I2 _ (turn_keys _ hdt) ⟨_, Heap.get?_push_size _ rfl, rfl, ?_⟩ q)
    rw [hsz] <;> rfl
  have dt : ∀ {H2 : Hp} {o : Obj} {xs : TE3}, Inv X pins σ H2 s1 → H2 a = some (.frz o (TD (XK X) a xs)) → R (Itkd (XK X) a o xs) H2 → wpAny (model X.prog X.w) X.A (pyIter (.ref a)) (PIE X pins σ tg R) X.xe s1 := fun I2 hd q => by
    obtain ⟨hs, hgd, hx, es, ep, hdt, hsz, hl⟩ := td_frz I2 hd
    refine iter_keys hs hgd hx hdt (pi_one (tk := s1.toks) I2 _ (turn_keysD rfl _ hdt) ⟨_, Heap.get?_push_size _ rfl, rfl, ?_⟩ q)
    rw [hsz] <;> rfl
  rcases q with ⟨xs, hq, q⟩ | ⟨xs, hq, q⟩ | ⟨kvs, o, hd, q⟩ | ⟨kvs, hd, q⟩ | ⟨kvs, o, hd, q⟩ | ⟨kvs, hd, q⟩
  · obtain ⟨its, rv, p, hz⟩ := I1.list hq
    exact wpAny_pyIter_list p.isList (pi_one (tk := s1.toks) I1 _ (turn_list a _) ⟨_, Heap.get?_push_size _ rfl, rfl, rfl⟩ q)
  · obtain ⟨its, rv, p, hz⟩ := I1.tuple hq
    exact wpAny_pyIter_tuple (show s1.heap.IsTuple a its.toArray from p) (pi_one (tk := s1.toks) I1 _ (turn_tuple a _) ⟨_, Heap.get?_push_size _ rfl, rfl, rfl⟩ q)
  · exact dk I1 hd q
  · obtain ⟨o, I2⟩ := I1.lock hd True.intro
    exact dk I2 upd_same (q o)
  · exact dt I1 hd q
  · obtain ⟨o, I2⟩ := I1.lock hd True.intro
    exact dt I2 upd_same (q o)

def Wd.lock (W : Wd) (a : Addr) (o : Obj) (u : HO) : Wd := { W with H := upd W.H a (.frz o u) }
section
variable {K : KP} {W : Wd} {a : Addr} {o : Obj} {u : HO}
theorem rd_lock {b : Addr} {v : HO} (hu : HO.live u = true) (e : W.H a = some u) (h : Rd W.H b v) : Rd (upd W.H a (.frz o u)) b v := by
  by_cases q : b = a
  · subst q
    rcases h with h | ⟨ob, h⟩
    · rw [e] at h; cases h; exact .inr ⟨o, upd_same⟩
    · rw [e] at h; cases h; cases hu
  · exact rd_upd h q
theorem le_lock (k : Ok K W) (hu : HO.live u = true) (e : W.H a = some u) (f : W.frz a) : Le K W (W.lock a o u) := by
  refine ⟨fun _ _ h => h, fun b xs h => ?_, fun b xs h f => ⟨rd_lock hu e h, f⟩, fun b xs h f => ⟨rd_lock hu e h, f⟩, fun b xs h f => ⟨rd_lock hu e h, f⟩, fun b ob v h => ?_, fun b h => ⟨h, ?_⟩⟩
  · rcases h with h | h
    · exact .inl (rd_lock hu e h)
    · exact .inr h
  · show upd W.H a _ b = _
    rw [upd_ne fun q => by rw [q, e] at h; cases h; cases hu]
    exact h
  · show upd W.H a _ b = _
    exact upd_ne fun q => f.2 (q ▸ h)
theorem Ok.lock (k : Ok K W) (hu : HO.live u = true) (e : W.H a = some u) (f : W.frz a) : Ok K (W.lock a o u) := by
  refine ⟨k.len, k.nd, fun n b v h1 h2 => ?_, k.pn, fun b h => ?_, fun b h => ?_, fun b h => ?_⟩
  · by_cases q : b = a
    · subst q
      have hd := f.1 n h1
      have h2 : W.M[n]? = some v := h2
      rw [hd] at h2
      cases h2
      exact ⟨_, upd_same, by intro x z; cases z⟩
    · exact (k.ob n b v h1 h2).mono (le_lock k hu e f) (upd_ne q)
  · obtain ⟨v, q⟩ := k.ph b h
    exact ⟨v, ((le_lock (o := o) k hu e f).x b h).2.trans q⟩
  · have hne : b ≠ a := tab_live (k.tb b h).1 e fun q z => by rw [z] at hu; cases hu
    exact ⟨tab_upd (k.tb b h).1 hne, (k.tb b h).2⟩
  · have hne : b.1 ≠ a := tab_live (k.lm b h).1.tab e fun q z => by rw [z] at hu; cases hu
    exact ⟨(k.lm b h).1.mono (upd_ne hne) (le_lock (o := o) k hu e f).z, (k.lm b h).2⟩
end
theorem rp_kD {K : KP} {W : Wd} (k : Key) : Rp K W (kV k) (kD k) := by
  cases k with
  | inl i => exact .int i
  | inr x => exact .str x
theorem rpa_kD {K : KP} {W : Wd} : ∀ ks : List Key, RpA K W (ks.map kV) (ks.map kD)
  | [] => .nil
  | k :: ks => .cons (rp_kD k) (rpa_kD ks)
theorem rpk_get {K : KP} {W : Wd} : ∀ {kvs : List (Key × V)} {ds : List (D × D)} {i : Nat} {k : Key} {v : V}, RpK K W kvs ds → kvs[i]? = some (k, v) → ∃ d, ds[i]? = some (kD k, d) ∧ Rp K W v d
  | _, _, i, _, _, .nil, h => by simp at h
  | _, _, 0, _, _, .cons r _, h => by simp at h; obtain ⟨rfl, rfl⟩ := h; exact ⟨_, rfl, r⟩
  | _, _, i + 1, _, _, .cons _ t, h => by simpa using rpk_get t (by simpa using h)
theorem rpt_get {K : KP} {W : Wd} : ∀ {kvs : List (List Key × V)} {ds : List (D × D)} {i : Nat} {k : List Key} {v : V}, RpT K W kvs ds → kvs[i]? = some (k, v) → ∃ d, ds[i]? = some (ktD k, d) ∧ Rp K W v d
  | _, _, i, _, _, .nil, h => by simp at h
  | _, _, 0, _, _, .cons r _, h => by simp at h; obtain ⟨rfl, rfl⟩ := h; exact ⟨_, rfl, r⟩
  | _, _, i + 1, _, _, .cons _ t, h => by simpa using rpt_get t (by simpa using h)
theorem ks_get {F : PySem.W.Frag} {H : Hp} : ∀ {xs : TE3} {kvs : List (List Key × V)} {i : Nat} {k : List Key} {q : Addr} {u : Value}, KS F H xs kvs → xs[i]? = some (k, q, u) → ∃ v, kvs[i]? = some (k, v) ∧ SqT F H q (k.map kV) ∧ RelV v u
  | _, _, i, _, _, _, .nil, h => by simp at h
  | _, _, 0, _, _, _, .cons s r _, h => by simp at h; obtain ⟨rfl, rfl, rfl⟩ := h; exact ⟨_, rfl, s, r⟩
  | _, _, i + 1, _, _, _, .cons _ _ t, h => by simpa using ks_get t (by simpa using h)
def itD (d : DL.D) : Mo Itd' := fun M => match d with
  | .str z => if z.cps.size ≤ sizeLine then some (.ok ⟨z.cps.toList.map fun c => .str ⟨#[c]⟩, none⟩, M) else none
  | .tup l => some (.ok ⟨l, none⟩, M)
  | .lst l => some (.ok ⟨l, none⟩, M)
  | .dct _ l => some (.ok ⟨l.map (·.1), none⟩, M)
  | .ref n => match M[n]? with
    | some (.lst l) => some (.ok ⟨l, some (n, .lst l)⟩, M)
    | _ => none
  | _ => none
theorem itok_tup {W : Wd} {a : Addr} {xs : List V} {l : List DL.D} (h : SqT S.F W.H a xs) (r : RpA S.K W xs l) (z : SzH S.K W.H) : ItOk S W (Itt S.F a) ⟨l, none⟩ := by
  refine ⟨by show l.length ≤ _; rw [← r.length]; exact z.t a xs h, fun W1 l1 k1 _ => ⟨fun i hi => ⟨?_, fun x H' hy => ?_⟩, xs, l1.t a xs h, by rw [r.length]; exact Nat.le_refl _⟩⟩
  · obtain ⟨y, hy, _⟩ := r.get (List.getElem?_eq_getElem hi)
    exact ⟨xs, y, l1.t a xs h, hy⟩
  · obtain ⟨rfl, hx⟩ := hy
    obtain ⟨d, hd, rd⟩ := r.get' (hx xs (l1.t a xs h))
    exact ⟨W1, Le.refl _ _, k1, rfl, rfl, d, hd, rd.mono0 l1.zero⟩
theorem itok_lst {W : Wd} {a : Addr} {xs : List V} {l : List DL.D} (h : Rd W.H a (.lst xs)) (f : W.frz a) (r : RpA S.K W xs l) (z : SzH S.K W.H) : ItOk S W (Itl S.F a) ⟨l, none⟩ := by
  refine ⟨by show l.length ≤ _; rw [← r.length]; exact z.l a xs (.inl h), fun W1 l1 k1 _ => ⟨fun i hi => ⟨?_, fun x H' hy => ?_⟩, xs, .inl (l1.l a xs h f).1, by rw [r.length]; exact Nat.le_refl _⟩⟩
  · obtain ⟨y, hy, _⟩ := r.get (List.getElem?_eq_getElem hi)
    exact ⟨xs, y, .inl (l1.l a xs h f).1, hy⟩
  · obtain ⟨rfl, hx⟩ := hy
    obtain ⟨d, hd, rd⟩ := r.get' (hx xs (.inl (l1.l a xs h f).1))
    exact ⟨W1, Le.refl _ _, k1, rfl, rfl, d, hd, rd.mono0 l1.zero⟩
theorem itok_lstK {W : Wd} {a : Addr} {xs : List V} {l : List DL.D} (h : KLst S.F a xs) (r : RpA S.K W xs l) (z : SzH S.K W.H) : ItOk S W (Itl S.F a) ⟨l, none⟩ := by
  refine ⟨by show l.length ≤ _; rw [← r.length]; exact z.l a xs (.inr h), fun W1 l1 k1 _ => ⟨fun i hi => ⟨?_, fun x H' hy => ?_⟩, xs, .inr h, by rw [r.length]; exact Nat.le_refl _⟩⟩
  · obtain ⟨y, hy, _⟩ := r.get (List.getElem?_eq_getElem hi)
    exact ⟨xs, y, .inr h, hy⟩
  · obtain ⟨rfl, hx⟩ := hy
    obtain ⟨d, hd, rd⟩ := r.get' (hx xs (.inr h))
    exact ⟨W1, Le.refl _ _, k1, rfl, rfl, d, hd, rd.mono0 l1.zero⟩
theorem itok_cur {W : Wd} {n : Nat} {a : Addr} {l : List DL.D} (k : Ok S.K W) (hb : W.β[n]? = some a) (hm : W.M[n]? = some (.lst l)) (z : SzH S.K W.H) : ItOk S W (Itl S.F a) ⟨l, some (n, .lst l)⟩ := by
  obtain ⟨xs0, h0, r0⟩ := k.ob _ _ _ hb hm
  refine ⟨by show l.length ≤ _; rw [← r0.length]; exact z.l a xs0 (.inl (.inl h0)), fun W1 l1 k1 g => ?_⟩
  obtain ⟨xs, h, r⟩ := k1.ob _ _ _ (l1.β _ _ hb) g
  refine ⟨fun i hi => ⟨?_, fun x H' hy => ?_⟩, xs, .inl (.inl h), by rw [r.length]; exact Nat.le_refl _⟩
  · obtain ⟨y, hy, _⟩ := r.get (List.getElem?_eq_getElem hi)
    exact ⟨xs, y, .inl (.inl h), hy⟩
  · obtain ⟨rfl, hx⟩ := hy
    obtain ⟨d, hd, rd⟩ := r.get' (hx xs (.inl (.inl h)))
    exact ⟨W1, Le.refl _ _, k1, rfl, rfl, d, hd, rd⟩
theorem itok_dK {W : Wd} {a : Addr} {o : Obj} {kvs : List (Key × V)} {l : List (DL.D × DL.D)} (h : W.H a = some (.frz o (.dK kvs))) (r : RpK S.K W kvs l) (z : SzH S.K W.H) : ItOk S W (Itk a o kvs) ⟨l.map (·.1), none⟩ := by
  have hl := rpk_len r
  refine ⟨by show (l.map (·.1)).length ≤ _; rw [List.length_map, ← hl]; exact z.k a kvs (.inr ⟨o, h⟩), fun W1 l1 k1 _ => ⟨fun i hi => ⟨⟨l1.z _ _ _ h, by simpa [hl] using hi⟩, fun x H' hy => ?_⟩, l1.z _ _ _ h, by simp [hl]⟩⟩
  obtain ⟨rfl, k, v, hkv, rfl⟩ := hy
  obtain ⟨d, hd, _⟩ := rpk_get r hkv
  exact ⟨W1, Le.refl _ _, k1, rfl, rfl, kD k, by rw [List.getElem?_map, hd]; rfl, rp_kD k⟩
theorem itok_dT {W : Wd} {a : Addr} {o : Obj} {xs : TE3} {kvs : List (List Key × V)} {l : List (DL.D × DL.D)} (h : W.H a = some (.frz o (TD S.K a xs))) (q : KS S.F W.H xs kvs) (r : RpT S.K W kvs l) (z : SzH S.K W.H) :
    ItOk S W (Itkd S.K a o xs) ⟨l.map (·.1), none⟩ := by
  have hl := rpt_len r
  have hl2 := q.length
  refine ⟨by show (l.map (·.1)).length ≤ _; rw [List.length_map, ← hl, ← hl2]; exact z.kt a xs (.inr ⟨o, h⟩), fun W1 l1 k1 _ => ⟨fun i hi => ⟨⟨l1.z _ _ _ h, by simpa [hl, hl2] using hi⟩, fun x H' hy => ?_⟩, l1.z _ _ _ h, by simp [hl, hl2]⟩⟩
  obtain ⟨rfl, k, q', v, hkv, rfl⟩ := hy
  obtain ⟨u, hu, hs, _⟩ := ks_get q hkv
  obtain ⟨d, hd, _⟩ := rpt_get r hu
  exact ⟨W1, Le.refl _ _, k1, rfl, rfl, ktD k, by rw [List.getElem?_map, hd]; rfl, .tup (l1.t _ _ hs) (rpa_kD k)⟩
theorem itok_str {W : Wd} {z : Str} (hz : z.cps.size ≤ sizeLine) : ItOk S W (Its z) ⟨z.cps.toList.map fun c => .str ⟨#[c]⟩, none⟩ := by
  refine ⟨by show (List.map _ _).length ≤ _; simpa using hz, fun W1 l1 k1 _ => ⟨fun i hi => ⟨(by show i < z.cps.size; simpa using hi), fun x H' hy => ?_⟩, by simp [Its]⟩⟩
  obtain ⟨rfl, c, hc, rfl⟩ := hy
  exact ⟨W1, Le.refl _ _, k1, rfl, rfl, .str ⟨#[c]⟩, by simp [hc], .str _⟩
theorem ix_all {tg e : Expr} {f : En → Mo DL.D} (he : EX S e f) : IX S tg e (fun ρ => .bnd (f ρ) itD) := by
  obtain ⟨te, e1, e2⟩ := he.ex
  refine ix_mk (wi := iAll S.K te) (fun X c => by have z := pi_all (tg := tg) (e1 X c); unfold XK at z; rw [c.P, c.w, c.K] at z; exact z) fun W σ ρ R k st h => ?_
  refine e2 W σ ρ _ k st (Post.imp (Post.bnd h) fun d W1 l1 k1 q v rv => ?_)
  have q : Post S W1 σ (itD d W1.M) (fun it W' => ∀ J, (SzH S.K W'.H → ItOk S W' J it) → R J W'.H) := q
  unfold itD at q
  cases rv with
  | str z =>
    by_cases hz : z.cps.size ≤ sizeLine
    · simp only [hz, if_true] at q
      exact .inl ⟨z, rfl, Post.ret k1 q _ fun _ => itok_str hz⟩
    · simp only [hz, if_false] at q
      exact q.elim
  | tup hs r => exact .inr ⟨_, rfl, .inr (.inl ⟨_, hs, Post.ret k1 q _ fun z => itok_tup hs r z⟩)⟩
  | lst hs f r => exact .inr ⟨_, rfl, .inl ⟨_, .inl hs, Post.ret k1 q _ fun z => itok_lst hs f r z⟩⟩
  | lstK hs r => exact .inr ⟨_, rfl, .inl ⟨_, .inr hs, Post.ret k1 q _ fun z => itok_lstK hs r z⟩⟩
  | dK hs f r =>
    rcases hs with hs | ⟨o, hs⟩
    · refine .inr ⟨_, rfl, .inr (.inr (.inr (.inl ⟨_, hs, fun o => ?_⟩)))⟩
      have le := le_lock (o := o) k1 (u := .dK _) rfl hs f
      exact q (W1.lock _ o (.dK _)) le (k1.lock rfl hs f) rfl _ fun z => itok_dK upd_same (r.mono le) z
    · exact .inr ⟨_, rfl, .inr (.inr (.inl ⟨_, o, hs, Post.ret k1 q _ fun z => itok_dK hs r z⟩))⟩
  | dT hs f qs r =>
    rcases hs with hs | ⟨o, hs⟩
    · refine .inr ⟨_, rfl, .inr (.inr (.inr (.inr (.inr ⟨_, hs, fun o => ?_⟩))))⟩
      have le := le_lock (o := o) k1 (u := TD S.K _ _) rfl hs f
      exact q (W1.lock _ o (TD S.K _ _)) le (k1.lock rfl hs f) rfl _ fun z => itok_dT upd_same (qs.mono le.t) (r.mono le) z
    · exact .inr ⟨_, rfl, .inr (.inr (.inr (.inr (.inl ⟨_, o, hs, Post.ret k1 q _ fun z => itok_dT hs qs r z⟩))))⟩
  | @ref n a hb =>
    simp only at q
    split at q
    · rename_i l hm
      obtain ⟨xs, h0, r0⟩ := k1.ob _ _ _ hb hm
      exact .inr ⟨_, rfl, .inl ⟨xs, .inl (.inl h0), Post.ret k1 q _ fun z => itok_cur k1 hb hm z⟩⟩
    · exact q.elim
  | _ => exact (show False from q).elim
end
end DL
namespace DL
open PySem PySem.Spec PyProof.Rows L2
section
variable {S : SC}
theorem rp_intv {K : KP} {W : Wd} {v : V} {i : Int} (r : Rp K W v (.int i)) : v = .int i := by cases r; rfl
def rngI (i c : Int) (n : Nat) : List DL.D := (List.range n).map fun k => .int (i + (k : Nat) * c)
def rngB (i : Int) : Bool := decide (-8388608 ≤ i) && decide (i ≤ 8388608)
theorem rngB_le {i : Int} (h : rngB i = true) : -8388608 ≤ i ∧ i ≤ 8388608 := by
  unfold rngB at h
  simpa using h
def rngD1 : List DL.D → Mo Itd' := fun l M => match l with
  | [.int j] => cond (rngB j) (some (.ok ⟨rngI 0 1 j.toNat, none⟩, M)) none
  | _ => none
def rngD2 : List DL.D → Mo Itd' := fun l M => match l with
  | [.int i, .int j] => cond (rngB i && rngB j) (some (.ok ⟨rngI i 1 (j - i).toNat, none⟩, M)) none
  | _ => none
def rngOk (i j c : Int) : Bool := decide (c ≠ 0) && decide (c.natAbs < 1073741824) && Builtin.Range.small i j c && decide (Builtin.Range.rangeSize i j c = ((Builtin.Range.rangeSize i j c).toNat : Int)) && decide ((Builtin.Range.rangeSize i j c).toNat ≤ sizeLine)
def rngD3 : List DL.D → Mo Itd' := fun l M => match l with
  | [.int i, .int j, .int c] => cond (rngOk i j c) (some (.ok ⟨rngI i c (Builtin.Range.rangeSize i j c).toNat, none⟩, M)) none
  | _ => none
theorem rngD1_inv {W : Wd} {σ : L2.St} {ds : List DL.D} {Q : Itd' → Wd → Prop} (h : Post S W σ (rngD1 ds W.M) Q) : ∃ j, ds = [.int j] ∧ rngB j = true ∧ Post S W σ (Mo.ret ⟨rngI 0 1 j.toNat, none⟩ W.M) Q := by
  unfold rngD1 at h
  split at h
  · rename_i j
    cases hb : rngB j with
    | false => rw [hb] at h; exact h.elim
    | true => rw [hb] at h; exact ⟨j, rfl, hb, h⟩
  · exact h.elim
theorem rngD2_inv {W : Wd} {σ : L2.St} {ds : List DL.D} {Q : Itd' → Wd → Prop} (h : Post S W σ (rngD2 ds W.M) Q) : ∃ i j, ds = [.int i, .int j] ∧ rngB i = true ∧ rngB j = true ∧ Post S W σ (Mo.ret ⟨rngI i 1 (j - i).toNat, none⟩ W.M) Q := by
  unfold rngD2 at h
  split at h
  · rename_i i j
    cases hb : rngB i && rngB j with
    | false => rw [hb] at h; exact h.elim
    | true => rw [hb] at h; rw [Bool.and_eq_true] at hb; exact ⟨i, j, rfl, hb.1, hb.2, h⟩
  · exact h.elim
theorem rngD3_inv {W : Wd} {σ : L2.St} {ds : List DL.D} {Q : Itd' → Wd → Prop} (h : Post S W σ (rngD3 ds W.M) Q) : ∃ i j c, ds = [.int i, .int j, .int c] ∧ rngOk i j c = true ∧ Post S W σ (Mo.ret ⟨rngI i c (Builtin.Range.rangeSize i j c).toNat, none⟩ W.M) Q := by
  unfold rngD3 at h
  split at h
  · rename_i i j c
    cases hb : rngOk i j c with
    | false => rw [hb] at h; exact h.elim
    | true => rw [hb] at h; exact ⟨i, j, c, rfl, hb, h⟩
  · exact h.elim
theorem itok_rng {W : Wd} {i c : Int} {n : Nat} (hn : n ≤ sizeLine) : ItOk S W (Itc i c n) ⟨rngI i c n, none⟩ := by
  refine ⟨by show (rngI i c n).length ≤ _; unfold rngI; simpa using hn, fun W1 l1 k1 _ => ⟨fun k hk => ⟨?_, fun x H' hy => ?_⟩, ?_⟩⟩
  · show k < n
    unfold rngI at hk
    simpa using hk
  · have hk : k < n := by unfold rngI at hk; simpa using hk
    obtain ⟨rfl, rfl⟩ := hy
    refine ⟨W1, Le.refl _ _, k1, rfl, rfl, .int (i + (k : Nat) * c), ?_, .int _⟩
    show (rngI i c n)[k]? = _
    unfold rngI
    simp [hk]
  · show n ≤ (rngI i c n).length
    unfold rngI
    simp
theorem itok_rng1 {W : Wd} {i : Int} {n : Nat} (hn : n ≤ sizeLine) : ItOk S W (Itr i n) ⟨rngI i 1 n, none⟩ := by
  obtain ⟨h1, h2⟩ := itok_rng (S := S) (W := W) (i := i) (c := 1) hn
  refine ⟨h1, fun W1 l1 k1 g => ?_⟩
  obtain ⟨h3, h4⟩ := h2 W1 l1 k1 g
  refine ⟨fun k hk => ⟨(h3 k hk).1, fun x H' hy => (h3 k hk).2 x H' ?_⟩, h4⟩
  obtain ⟨e1, e2⟩ := hy
  refine ⟨e1, ?_⟩
  rw [e2, Int.mul_one]
theorem size24 : sizeLine = 16777216 := by decide
theorem rvs1 {K : KP} {W : Wd} {vs : List V} {i : Int} (r : RpA K W vs [.int i]) : vs = [.int i] := by
  cases r with | cons r t => cases t; rw [rp_intv r]
theorem rvs2 {K : KP} {W : Wd} {vs : List V} {i j : Int} (r : RpA K W vs [.int i, .int j]) : vs = [.int i, .int j] := by
  cases r with | cons r t => rw [rp_intv r, rvs1 t]
theorem rvs3 {K : KP} {W : Wd} {vs : List V} {i j c : Int} (r : RpA K W vs [.int i, .int j, .int c]) : vs = [.int i, .int j, .int c] := by
  cases r with | cons r t => rw [rp_intv r, rvs2 t]
theorem ix_range1 {tg a : Expr} {fa : En → Mo (List DL.D)} {p pos : Pos} (hg : Gs S "range") (hm : S.mg "range" = none) (ha : AX S [a] fa) (hs : ∀ env : PySem.Env, starEach [a] env = [(false, eval a env)] := by intro; rfl) :
    IX S tg (.Call (.Name "range" p) [a] [] pos) (fun ρ => .bnd (fa ρ) rngD1) := by
  obtain ⟨ta, a1, a2⟩ := ha.ex
  refine ix_mk (fun X c => pi_range1 (gl_of c hg) (by rw [c.mg]; exact hm) (a1 X c) (hs X.env)) fun W σ ρ R k st h => ?_
  refine a2 W σ ρ _ k st (Post.imp (Post.bnd h) fun ds W1 l1 k1 q vs rvs => ?_)
  obtain ⟨j, rfl, hb, q⟩ := rngD1_inv q
  have := rngB_le hb
  exact ⟨j, rvs1 rvs, by omega, by omega, Post.ret k1 q _ fun _ => itok_rng1 (by rw [size24]; omega)⟩
theorem ix_range2 {tg a b : Expr} {fa : En → Mo (List DL.D)} {p pos : Pos} (hg : Gs S "range") (hm : S.mg "range" = none) (ha : AX S [a, b] fa) (hs : ∀ env : PySem.Env, starEach [a, b] env = [(false, eval a env), (false, eval b env)] := by intro; rfl) (hs2 : ∀ env : PySem.Env, starEach [b] env = [(false, eval b env)] := by intro; rfl) :
    IX S tg (.Call (.Name "range" p) [a, b] [] pos) (fun ρ => .bnd (fa ρ) rngD2) := by
  obtain ⟨ta, a1, a2⟩ := ha.ex
  refine ix_mk (fun X c => pi_range2 (gl_of c hg) (by rw [c.mg]; exact hm) (a1 X c) (hs X.env) (hs2 X.env)) fun W σ ρ R k st h => ?_
  refine a2 W σ ρ _ k st (Post.imp (Post.bnd h) fun ds W1 l1 k1 q vs rvs => ?_)
  obtain ⟨i, j, rfl, hb, hb2, q⟩ := rngD2_inv q
  have := rngB_le hb
  have := rngB_le hb2
  exact ⟨i, j, rvs2 rvs, ⟨by omega, by omega, by omega, by omega⟩, Post.ret k1 q _ fun _ => itok_rng1 (by rw [size24]; omega)⟩
theorem ix_range3 {tg a b c : Expr} {fa : En → Mo (List DL.D)} {p pos : Pos} (hg : Gs S "range") (hm : S.mg "range" = none) (ha : AX S [a, b, c] fa) (hs : ∀ env : PySem.Env, starEach [a, b, c] env = (false, eval a env) :: starEach [b, c] env := by intro; rfl)
    (hpl : ∀ env : PySem.Env, (backTo pos (starEach [b, c] env)).any (·.1) = false := by intro; rfl) :
    IX S tg (.Call (.Name "range" p) [a, b, c] [] pos) (fun ρ => .bnd (fa ρ) rngD3) := by
  obtain ⟨ta, a1, a2⟩ := ha.ex
  refine ix_mk (fun X c => pi_range3 (gl_of c hg) (by rw [c.mg]; exact hm) (a1 X c) (hs X.env) (hpl X.env)) fun W σ ρ R k st h => ?_
  refine a2 W σ ρ _ k st (Post.imp (Post.bnd h) fun ds W1 l1 k1 q vs rvs => ?_)
  obtain ⟨i, j, c, rfl, hb, q⟩ := rngD3_inv q
  unfold rngOk at hb
  simp only [Bool.and_eq_true, decide_eq_true_eq] at hb
  obtain ⟨⟨⟨⟨b1, b2⟩, b3⟩, b4⟩, b5⟩ := hb
  exact ⟨i, j, c, _, rvs3 rvs, ⟨b1, b2, b3, b4⟩, Post.ret k1 q _ fun _ => itok_rng b5⟩

/-- a list that changes no more -/
def FzL (K : KP) (W : Wd) (a : Addr) (xs : List V) : Prop := (Rd W.H a (.lst xs) ∧ W.frz a) ∨ KLst K.K a xs
theorem FzL.z {K : KP} {W W' : Wd} {a : Addr} {xs : List V} (h : FzL K W a xs) (e : LeZ K W W') : FzL K W' a xs := h.imp (fun h => e.l _ _ h.1 h.2) id
theorem FzL.sq {K : KP} {W : Wd} {a : Addr} {xs : List V} (h : FzL K W a xs) : SqL K.K W.H a xs := h.imp (fun h => h.1) id
def revD (d : DL.D) : Mo Itd' := fun M => match d with
  | .tup l => some (.ok ⟨l.reverse, none⟩, M)
  | .lst l => some (.ok ⟨l.reverse, none⟩, M)
  | _ => none
theorem rev_get {α : Type} {l : List α} {i : Nat} (h : i < l.length) : l.reverse[i]? = l[l.length - 1 - i]? := List.getElem?_reverse h
theorem itok_revT {W : Wd} {a : Addr} {xs : List V} {l : List DL.D} (h : SqT S.F W.H a xs) (r : RpA S.K W xs l) (z : SzH S.K W.H) : ItOk S W (RT.ItvT S.F a xs.length) ⟨l.reverse, none⟩ := by
  have hl := r.length
  refine ⟨by show l.reverse.length ≤ _; rw [List.length_reverse, ← hl]; exact z.t a xs h, fun W1 l1 k1 _ => ⟨fun i hi => ?_, by show xs.length ≤ l.reverse.length; rw [List.length_reverse, hl]; exact Nat.le_refl _⟩⟩
  have hi : i < l.length := by simpa using hi
  refine ⟨⟨by omega, ?_⟩, fun x H' hy => ?_⟩
  · obtain ⟨y, hy⟩ : ∃ y, xs[xs.length - 1 - i]? = some y := ⟨xs[xs.length - 1 - i], List.getElem?_eq_getElem (by omega)⟩
    exact ⟨xs, y, l1.t a xs h, hy⟩
  · obtain ⟨rfl, hx⟩ := hy
    obtain ⟨d, hd, rd⟩ := r.get' (hx xs (l1.t a xs h))
    exact ⟨W1, Le.refl _ _, k1, rfl, rfl, d, by show l.reverse[i]? = _; rw [rev_get hi, ← hl]; exact hd, rd.mono0 l1.zero⟩
theorem itok_revL {W : Wd} {a : Addr} {xs : List V} {l : List DL.D} (h : FzL S.K W a xs) (r : RpA S.K W xs l) (z : SzH S.K W.H) : ItOk S W (Itv S.F a xs.length) ⟨l.reverse, none⟩ := by
  have hl := r.length
  refine ⟨by show l.reverse.length ≤ _; rw [List.length_reverse, ← hl]; exact z.l a xs h.sq, fun W1 l1 k1 _ => ⟨fun i hi => ?_, by show xs.length ≤ l.reverse.length; rw [List.length_reverse, hl]; exact Nat.le_refl _⟩⟩
  have hi : i < l.length := by simpa using hi
  refine ⟨⟨by omega, ?_⟩, fun x H' hy => ?_⟩
  · obtain ⟨y, hy⟩ : ∃ y, xs[xs.length - 1 - i]? = some y := ⟨xs[xs.length - 1 - i], List.getElem?_eq_getElem (by omega)⟩
    exact ⟨xs, y, (h.z l1).sq, hy⟩
  · obtain ⟨rfl, hx⟩ := hy
    obtain ⟨d, hd, rd⟩ := r.get' (hx xs (h.z l1).sq)
    exact ⟨W1, Le.refl _ _, k1, rfl, rfl, d, by show l.reverse[i]? = _; rw [rev_get hi, ← hl]; exact hd, rd.mono0 l1.zero⟩
theorem ix_rev {tg e : Expr} {f : En → Mo DL.D} {p pos : Pos} (hg : Gs S "reversed") (hm : S.mg "reversed" = none) (he : EX S e f) (hs : ∀ env : PySem.Env, starEach [e] env = (false, eval e env) :: starEach [] env := by intro; rfl) :
    IX S tg (.Call (.Name "reversed" p) [e] [] pos) (fun ρ => .bnd (f ρ) revD) := by
  obtain ⟨te, e1, e2⟩ := he.ex
  refine ix_mk (fun X c => by have z := RT.pi_revA (p := p) (pos := pos) (tg := tg) (gl_of c hg) (by rw [c.mg]; exact hm) (e1 X c) (hs X.env); rw [c.K] at z; exact z) fun W σ ρ R k st h => ?_
  refine e2 W σ ρ _ k st (Post.imp (Post.bnd h) fun d W1 l1 k1 q v rv => ?_)
  cases rv with
  | tup hs r => exact ⟨_, _, rfl, .inr ⟨hs, Post.ret k1 q _ fun z => itok_revT hs r z⟩⟩
  | lst hs f r => exact ⟨_, _, rfl, .inl ⟨.inl hs, Post.ret k1 q _ fun z => itok_revL (.inl ⟨hs, f⟩) r z⟩⟩
  | lstK hs r => exact ⟨_, _, rfl, .inl ⟨.inr hs, Post.ret k1 q _ fun z => itok_revL (.inr hs) r z⟩⟩
  | _ => exact (show False from q).elim

def zipD : List DL.D → Mo Itd' := fun l M => match l with
  | [.tup a, .tup b] => some (.ok ⟨(a.zip b).map fun p => .tup [p.1, p.2], none⟩, M)
  | [.lst a, .lst b] => some (.ok ⟨(a.zip b).map fun p => .tup [p.1, p.2], none⟩, M)
  | _ => none
theorem lay_pair {W1 : Wd} (k1 : Ok S.K W1) {T : Addr} {x y : V} {d e : DL.D} (hT : W1.H T = none) (rx : Rp S.K W1 x d) (ry : Rp S.K W1 y e) :
    ∃ W2, Le S.K W1 W2 ∧ Ok S.K W2 ∧ W2.M = W1.M ∧ W2.H = upd W1.H T (.tup [x, y]) ∧ Rp S.K W2 (.ref T) (.tup [d, e]) := by
  have le := le_lay (o := .tup [x, y]) k1 hT
  exact ⟨W1.lay T (.tup [x, y]), le, k1.lay hT, rfl, rfl, .tup (.inl (.inl upd_same)) (.cons (rx.mono le) (.cons (ry.mono le) .nil))⟩
theorem zip_get {α β : Type} {a : List α} {b : List β} {i : Nat} {x : α} {y : β} (ha : a[i]? = some x) (hb : b[i]? = some y) : (a.zip b)[i]? = some (x, y) := by
  rw [List.getElem?_zip_eq_some]
  exact ⟨ha, hb⟩
theorem itok_zipT {W : Wd} {a b : Addr} {xs ys : List V} {l m : List DL.D} (h : SqT S.F W.H a xs) (r : RpA S.K W xs l) (h2 : SqT S.F W.H b ys) (r2 : RpA S.K W ys m) (z : SzH S.K W.H) : ItOk S W (RZ.ItzT S.F a b) ⟨(l.zip m).map fun p => .tup [p.1, p.2], none⟩ := by
  have hl := r.length
  have hl2 := r2.length
  refine ⟨by show (List.map _ _).length ≤ _; rw [List.length_map, List.length_zip, ← hl]; exact Nat.le_trans (Nat.min_le_left _ _) (z.t a xs h), fun W1 l1 k1 _ => ⟨fun i hi => ?_, xs, ys, l1.t a xs h, l1.t b ys h2, ?_⟩⟩
  · have hi : i < min l.length m.length := by simpa using hi
    have hi : i < l.length ∧ i < m.length := by omega
    obtain ⟨x, hx⟩ : ∃ y, xs[i]? = some y := ⟨xs[i], List.getElem?_eq_getElem (by omega)⟩
    obtain ⟨y, hy⟩ : ∃ y, ys[i]? = some y := ⟨ys[i], List.getElem?_eq_getElem (by omega)⟩
    refine ⟨⟨xs, ys, x, y, l1.t a xs h, l1.t b ys h2, hx, hy⟩, fun v H' hv => ?_⟩
    obtain ⟨T, x', y', rfl, hT, rfl, hx', hy'⟩ := hv
    obtain ⟨d, hd, rd⟩ := r.get' (hx' xs (l1.t a xs h))
    obtain ⟨e, he, re⟩ := r2.get' (hy' ys (l1.t b ys h2))
    obtain ⟨W2, q1, q2, q3, q4, q5⟩ := lay_pair k1 hT (rd.mono0 l1.zero) (re.mono0 l1.zero)
    exact ⟨W2, q1, q2, q3, q4, .tup [d, e], by rw [List.getElem?_map, zip_get hd he]; rfl, q5⟩
  · show _ ≤ (List.map _ _).length ∨ _ ≤ (List.map _ _).length
    rw [List.length_map, List.length_zip]; omega
theorem itok_zipL {W : Wd} {a b : Addr} {xs ys : List V} {l m : List DL.D} (h : FzL S.K W a xs) (r : RpA S.K W xs l) (h2 : FzL S.K W b ys) (r2 : RpA S.K W ys m) (z : SzH S.K W.H) : ItOk S W (Itz S.F a b) ⟨(l.zip m).map fun p => .tup [p.1, p.2], none⟩ := by
  have hl := r.length
  have hl2 := r2.length
  refine ⟨by show (List.map _ _).length ≤ _; rw [List.length_map, List.length_zip, ← hl]; exact Nat.le_trans (Nat.min_le_left _ _) (z.l a xs h.sq), fun W1 l1 k1 _ => ⟨fun i hi => ?_, xs, ys, (h.z l1).sq, (h2.z l1).sq, ?_⟩⟩
  · have hi : i < min l.length m.length := by simpa using hi
    have hi : i < l.length ∧ i < m.length := by omega
    obtain ⟨x, hx⟩ : ∃ y, xs[i]? = some y := ⟨xs[i], List.getElem?_eq_getElem (by omega)⟩
    obtain ⟨y, hy⟩ : ∃ y, ys[i]? = some y := ⟨ys[i], List.getElem?_eq_getElem (by omega)⟩
    refine ⟨⟨xs, ys, x, y, (h.z l1).sq, (h2.z l1).sq, hx, hy⟩, fun v H' hv => ?_⟩
    obtain ⟨T, x', y', rfl, hT, rfl, hx', hy'⟩ := hv
    obtain ⟨d, hd, rd⟩ := r.get' (hx' xs (h.z l1).sq)
    obtain ⟨e, he, re⟩ := r2.get' (hy' ys (h2.z l1).sq)
    obtain ⟨W2, q1, q2, q3, q4, q5⟩ := lay_pair k1 hT (rd.mono0 l1.zero) (re.mono0 l1.zero)
    exact ⟨W2, q1, q2, q3, q4, .tup [d, e], by rw [List.getElem?_map, zip_get hd he]; rfl, q5⟩
  · show _ ≤ (List.map _ _).length ∨ _ ≤ (List.map _ _).length
    rw [List.length_map, List.length_zip]; omega
theorem ix_zip {e e2 : Expr} {fa : En → Mo (List DL.D)} {p pos tpos : Pos} {elts : List Expr} {kk : Nat} (hg : Gs S "zip") (hm : S.mg "zip" = none) (ha : AX S [e, e2] fa) (hs : ∀ env : PySem.Env, starEach [e, e2] env = (false, eval e env) :: starEach [e2] env := by intro; rfl)
    (hpl : ∀ env : PySem.Env, (backTo pos (starEach [e2] env)).any (·.1) = false := by intro; rfl) :
    IX S (.Tuple elts kk tpos) (.Call (.Name "zip" p) [e, e2] [] pos) (fun ρ => .bnd (fa ρ) zipD) := by
  obtain ⟨ta, a1, a2⟩ := ha.ex
  refine ix_mk (fun X c => by have z := RZ.pi_zipA (p := p) (pos := pos) (elts := elts) (kk := kk) (tpos := tpos) (gl_of c hg) (by rw [c.mg]; exact hm) (a1 X c) (hs X.env) (hpl X.env); rw [c.K] at z; exact z) fun W σ ρ R k st h => ?_
  refine a2 W σ ρ _ k st (Post.imp (Post.bnd h) fun ds W1 l1 k1 q vs rvs => ?_)
  cases rvs with
  | nil => exact (show False from q).elim
  | cons r t => cases t with
    | nil => exact (show False from (by cases r <;> exact q)).elim
    | cons r2 t => cases t with
      | cons _ _ => exact (show False from (by cases r <;> cases r2 <;> exact q)).elim
      | nil =>
        cases r with
        | tup hs r => cases r2 with
          | tup hs2 r2 => exact ⟨_, _, _, _, rfl, .inr ⟨hs, hs2, Post.ret k1 q _ fun z => itok_zipT hs r hs2 r2 z⟩⟩
          | _ => exact (show False from q).elim
        | lst hs f r => cases r2 with
          | lst hs2 f2 r2 => exact ⟨_, _, _, _, rfl, .inl ⟨.inl hs, .inl hs2, Post.ret k1 q _ fun z => itok_zipL (.inl ⟨hs, f⟩) r (.inl ⟨hs2, f2⟩) r2 z⟩⟩
          | lstK hs2 r2 => exact ⟨_, _, _, _, rfl, .inl ⟨.inl hs, .inr hs2, Post.ret k1 q _ fun z => itok_zipL (.inl ⟨hs, f⟩) r (.inr hs2) r2 z⟩⟩
          | _ => exact (show False from q).elim
        | lstK hs r => cases r2 with
          | lst hs2 f2 r2 => exact ⟨_, _, _, _, rfl, .inl ⟨.inr hs, .inl hs2, Post.ret k1 q _ fun z => itok_zipL (.inr hs) r (.inl ⟨hs2, f2⟩) r2 z⟩⟩
          | lstK hs2 r2 => exact ⟨_, _, _, _, rfl, .inl ⟨.inr hs, .inr hs2, Post.ret k1 q _ fun z => itok_zipL (.inr hs) r (.inr hs2) r2 z⟩⟩
          | _ => exact (show False from q).elim
        | _ => exact (show False from (by cases r2 <;> exact q)).elim
end
end DL
namespace DL
open PySem PySem.Spec PyProof.Rows L2

def SC.blk (S : SC) (scope : Scope) : SC := { S with sc := relS scope S.sc, df := false, fnc := fun x => scope.names.lookup x == some .cell, W := fun _ _ _ _ => False }
theorem InC.blk {S : SC} {X : Cx} (c : InC S X) (scope : Scope) (s : Shared) (H : Hp) (C : Addr) (cl : List (Str × Addr)) (fp : List Addr) : InC (S.blk scope) (X.blk s H scope (compEnvC scope cl C X.env) fp) where
  P := c.P
  w := c.w
  K := c.K
  mg := c.mg
  base := c.base
  N := c.N
  sc := by
    show relS scope X.env.scope = relS scope S.sc
    rw [c.sc]
  calm := c.calm
  room := c.room
  takes := fun u s' ⟨a, B, sI, pins, σ, H, cls, d, e, I, nb, up, sky, na, os, ag, w⟩ => w
  own := by intro h; cases h
  stk := by intro h; cases h
  fn := fun x h => h
  code := c.code
  ql := c.ql
def wipeR (ρ : En) : List Nat → En
  | [] => ρ
  | v :: vs => (wipeR ρ vs).set v none
theorem StR.wipe {K : KP} {W : Wd} {σ : L2.St} {ρ : En} (h : StR K W σ ρ) : ∀ vs, StR K W (L2.wipe σ vs) (wipeR ρ vs)
  | [] => h
  | v :: vs => (StR.wipe h vs).del v
theorem wipe_ext {σ τ : L2.St} {vs : List Nat} (hl : σ.length = τ.length) (h : ∀ j, j ∉ vs → σ[j]? = τ[j]?) : wipe σ vs = wipe τ vs := by
  apply List.ext_getElem?
  intro j
  by_cases hj : j ∈ vs
  · have key : ∀ {σ : L2.St} {vs : List Nat}, j ∈ vs → (wipe σ vs)[j]? = if j < σ.length then some none else none := by
      intro σ vs
      induction vs with
      | nil => intro h; cases h
      | cons v vs ih =>
        intro h
        unfold wipe
        by_cases e : v = j
        · subst e
          by_cases hl : v < σ.length
          · rw [if_pos hl, List.getElem?_set_self (by rw [wipe_length]; exact hl)]
          · rw [if_neg hl, List.getElem?_eq_none (by rw [List.length_set, wipe_length]; omega)]
        · rw [List.getElem?_set_ne e]
          rcases List.mem_cons.mp h with q | q
          · exact absurd q.symm e
          · exact ih q
    rw [key hj, key hj, hl]
  · rw [wipe_out hj, wipe_out hj]; exact h j hj
theorem wipe_set {σ : L2.St} {i : Nat} {x : Option V} {vs : List Nat} (hi : i ∈ vs) : wipe (σ.set i x) vs = wipe σ vs :=
  wipe_ext (by simp) fun j hj => List.getElem?_set_ne (by intro e; subst e; exact hj hi)

section
variable {S : SC}
def PRv (S : SC) (vs : List Nat) (σ : L2.St) (Q : L2.St → Hp → Prop) : En → Wd → Prop := fun ρ W' => ∀ σ', StR S.K W' σ' ρ → wipe σ' vs = wipe σ vs → Q σ' W'.H
def SemGv (S : SC) (vs : List Nat) (t : TG) (h : DL.D → En → Mo En) : Prop := ∀ (W : Wd) (σ : L2.St) (ρ : En) (v : V) (d : DL.D) (Q : L2.St → Hp → Prop), Ok S.K W → StR S.K W σ ρ → Rp S.K W v d → Post0 S W (h d ρ W.M) (PRv S vs σ Q) → t v σ W.H Q
def SemGsv (S : SC) (vs : List Nat) (t : TGs) (h : List DL.D → En → Mo En) : Prop := ∀ (W : Wd) (σ : L2.St) (ρ : En) (v : List V) (d : List DL.D) (Q : L2.St → Hp → Prop), Ok S.K W → StR S.K W σ ρ → RpA S.K W v d → Post0 S W (h d ρ W.M) (PRv S vs σ Q) → t v σ W.H Q
structure GV (S : SC) (vs : List Nat) (tg : Expr) (h : DL.D → En → Mo En) : Prop where
  ex : ∃ t : TG, (∀ X, InC S X → PG X tg t) ∧ SemGv S vs t h
structure GVs (S : SC) (vs : List Nat) (tg : List Expr) (h : List DL.D → En → Mo En) : Prop where
  ex : ∃ t : TGs, (∀ X, InC S X → PGs X tg t) ∧ SemGsv S vs t h
theorem gv_name (i : Nat) {vs : List Nat} {x : Str} {pos : Pos} (hN : S.N.Nodup) (hi : S.N[i]? = some x := by rfl) (hv : i ∈ vs := by decide) (hx : S.sc.names.lookup x = some .local ∨ (S.fnc x = true ∧ S.sc.names.lookup x = some .cell) := by first | exact Or.inl rfl | exact Or.inr ⟨rfl, rfl⟩) :
    GV S vs (.Name x pos) (fun d ρ => .ret (ρ.set i (some d))) :=
  ⟨gName i, fun X c => pg_name (by rw [c.N]; exact hN) (by rw [c.N]; exact hi) (loc_fn c hx).1 (loc_fn c hx).2, fun W σ ρ v d Q k st r h => Post0.ret k h _ (st.set r i) (wipe_set hv)⟩
theorem gvs_nil {vs : List Nat} : GVs S vs [] gNilD := by
  refine ⟨gNil, fun X c => pgs_nil, fun W σ ρ v d Q k st r h => ?_⟩
  cases r with
  | nil => exact ⟨rfl, Post0.ret k h σ st rfl⟩
  | cons _ _ => exact h.elim
theorem gvs_cons {vs : List Nat} {e : Expr} {es : List Expr} {h' : DL.D → En → Mo En} {hs : List DL.D → En → Mo En} (h1 : GV S vs e h') (h2 : GVs S vs es hs)
    (ht : ∀ env : PySem.Env, (assignEach (e :: es) env).map (·.2) = assign e env :: (assignEach es env).map (·.2) := by intro; rfl) : GVs S vs (e :: es) (gConsD h' hs) := by
  obtain ⟨t1, a1, a2⟩ := h1.ex
  obtain ⟨t2, b1, b2⟩ := h2.ex
  refine ⟨gCons t1 t2, fun X c => pgs_cons (a1 X c) (b1 X c) (ht X.env), fun W σ ρ v d Q k st r h => ?_⟩
  cases r with
  | nil => exact h.elim
  | @cons v vs' d ds r1 r2 =>
    have h : Post0 S W (Mo.bnd (h' d ρ) (fun ρ1 => hs ds ρ1) W.M) (PRv S vs σ Q) := h
    refine ⟨v, vs', rfl, a2 W σ ρ v d _ k st r1 (Post0.imp (Post0.bnd h) fun ρ1 W1 l1 k1 q σ1 st1 e1 => ?_)⟩
    exact b2 W1 σ1 ρ1 vs' ds Q k1 st1 (r2.mono l1) (Post0.imp q fun ρ2 W2 l2 k2 q2 σ2 st2 e2 => q2 σ2 st2 (e2.trans e1))
theorem gv_tup {vs : List Nat} {es : List Expr} {kk : Nat} {pos : Pos} {n : Nat} {hs : List DL.D → En → Mo En} (h : GVs S vs es hs) (hn : ∀ env : PySem.Env, (assignEach es env).length = n := by intro; rfl) (hst : ∀ env : PySem.Env, (assignEach es env).findIdx? (·.1) = none := by intro; rfl) :
    GV S vs (.Tuple es kk pos) (fun d ρ => .bnd (itemsT n d) fun ds => hs ds ρ) := by
  obtain ⟨t, a1, a2⟩ := h.ex
  refine ⟨gTup S.F n t, fun X c => by have z := pg_tup (k := kk) (pos := pos) c.calm (a1 X c) (hn X.env) (hst X.env); rw [c.K] at z; exact z, fun W σ ρ v d Q k st r h => ?_⟩
  cases r with
  | @tup a xs ds h1 h2 =>
    have h := Post0.bnd h
    have h : Post0 S W ((cond (decide (ds.length = n)) (Mo.ret ds) Mo.stuck) W.M) (fun ds W1 => Post0 S W1 (hs ds ρ W1.M) (PRv S vs σ Q)) := h
    by_cases e : ds.length = n
    · rw [decide_eq_true e] at h
      exact ⟨a, xs, rfl, h1, by rw [h2.length]; exact e, a2 W σ ρ xs ds Q k st h2 (Post0.ret k h)⟩
    · rw [decide_eq_false e] at h
      exact h.elim
  | _ => exact (show False from h).elim

def SemTs (S : SC) (t : TT) (f : En → Mo Bool) : Prop := SemT S t f
structure TXs (S : SC) (ifs : List Expr) (f : En → Mo Bool) : Prop where
  ex : ∃ t : TT, (∀ X, InC S X → PTs X ifs t) ∧ SemT S t f
theorem txs_nil : TXs S [] (fun _ => .ret true) := ⟨tYes, fun X c => pts_nil, fun W σ ρ Q k st h => Post.ret k h⟩
theorem txs_one {c : Expr} {f : En → Mo Bool} (h : TX S c f) : TXs S [c] f := let ⟨t, h1, h2⟩ := h.ex; ⟨t, fun X c => pts_one (h1 X c), h2⟩
end

structure Cst (K : KP) (W1 : Wd) (D : Addr) (W2 : Wd) (acc : List V) (accD : List DL.D) : Prop where
  le : Le K W1 W2
  ok : Ok K W2
  pv : D ∈ W2.pv
  at' : W2.H D = some (.lst acc)
  r : RpA K W2 acc accD
section
variable {K : KP} {W1 W2 W3 : Wd} {D : Addr} {acc : List V} {accD : List DL.D}
theorem Cst.mono (c : Cst K W1 D W2 acc accD) (l : Le K W2 W3) (k : Ok K W3) : Cst K W1 D W3 acc accD :=
  ⟨c.le.trans l, k, (l.x D c.pv).1, (l.x D c.pv).2.trans c.at', c.r.mono l⟩
def Wd.priv (W : Wd) (D : Addr) (o : HO) : Wd := { W with H := upd W.H D o, pv := D :: W.pv }
theorem le_priv {o : HO} (k : Ok K W1) (hD : W1.H D = none) : Le K W1 (W1.priv D o) := by
  have nt : ∀ ys, ¬ Rd W1.H D (.tup ys) := fun ys h => (rd_ne h hD) rfl
  have fz : ∀ a, a ≠ D → W1.frz a → (W1.priv D o).frz a := fun a hne f => ⟨f.1, fun h => by
    rcases List.mem_cons.mp h with e | h
    · exact hne e
    · exact f.2 h⟩
  exact ⟨fun _ _ h => h, fun a xs h => sqt_upd h nt, fun a xs h f => ⟨rd_upd h (rd_ne h hD), fz a (rd_ne h hD) f⟩, fun a xs h f => ⟨rd_upd h (rd_ne h hD), fz a (rd_ne h hD) f⟩, fun a xs h f => ⟨rd_upd h (rd_ne h hD), fz a (rd_ne h hD) f⟩,
    fun a ob u h => upd_z hD h, fun a h => ⟨List.mem_cons_of_mem _ h, upd_ne fun e => k.nopv hD (e ▸ h)⟩⟩
theorem Ok.priv {o : HO} (k : Ok K W1) (hD : W1.H D = none) : Ok K (W1.priv D o) := by
  refine ⟨k.len, k.nd, fun n a u h1 h2 => (k.ob n a u h1 h2).mono (le_priv k hD) (upd_ne fun e => k.notin hD n (e ▸ h1)), fun a h hb => ?_, fun a h => ?_, fun a h => ?_, fun a h => ?_⟩
  · rcases List.mem_cons.mp h with e | h
    · obtain ⟨n, hn⟩ := List.getElem?_of_mem hb
      exact k.notin hD n (e ▸ hn)
    · exact k.pn a h hb
  · rcases List.mem_cons.mp h with e | h
    · exact ⟨o, by rw [e]; exact upd_same⟩
    · obtain ⟨u, e⟩ := k.ph a h
      exact ⟨u, ((le_priv (o := o) k hD).x a h).2.trans e⟩
  · obtain ⟨t1, t2, t3⟩ := k.tb a h
    have hne : a ≠ D := tab_ne t1 fun q z => by rw [hD] at z; cases z
    exact ⟨tab_upd t1 hne, t2, fun hb => (List.mem_cons.mp hb).elim hne t3⟩
  · obtain ⟨t1, t2, t3, t4⟩ := k.lm a h
    have hne : a.1 ≠ D := tab_ne t1.tab fun q z => by rw [hD] at z; cases z
    exact ⟨t1.mono (upd_ne hne) (le_priv (o := o) k hD).z, t2, fun hb => (List.mem_cons.mp hb).elim hne t3, t4⟩
theorem Cst.init (k : Ok K W1) (hD : W1.H D = none) : Cst K W1 D (W1.priv D (.lst [])) [] [] := ⟨le_priv k hD, k.priv hD, List.mem_cons_self, upd_same, .nil⟩
def Wd.wr (W : Wd) (D : Addr) (o : HO) : Wd := { W with H := upd W.H D o }
theorem frz_pv (h : W2.frz D) (p : D ∈ W2.pv) : False := h.2 p
theorem le0_wr {o u : HO} (k : Ok K W2) (p : D ∈ W2.pv) (e : W2.H D = some u) (hu : HO.live u = true) : Le0 K W2 (W2.wr D o) := by
  have nt : ∀ ys, ¬ Rd W2.H D (.tup ys) := fun ys h => by
    rcases h with h | ⟨ob, h⟩ <;> rw [e] at h <;> cases h <;> cases hu
  refine ⟨fun _ _ h => h, fun a xs h => sqt_upd h nt, fun a xs h f => ⟨rd_upd h fun q => f.2 (q ▸ p), f⟩, fun a xs h f => ⟨rd_upd h fun q => f.2 (q ▸ p), f⟩, fun a xs h f => ⟨rd_upd h fun q => f.2 (q ▸ p), f⟩, fun a ob v h => ?_⟩
  show upd W2.H D o a = _
  rw [upd_ne fun q => by rw [q, e] at h; cases h; cases hu]
  exact h
theorem le_wr {o u : HO} (l : Le K W1 W2) (k : Ok K W2) (p : D ∈ W2.pv) (np : D ∉ W1.pv) (e : W2.H D = some u) (hu : HO.live u = true) : Le K W1 (W2.wr D o) := by
  have z := le0_wr (o := o) k p e hu
  refine ⟨fun n a h => z.β n a (l.β n a h), fun a xs h => z.t a xs (l.t a xs h), fun a xs h f => let ⟨h1, f1⟩ := l.l a xs h f; z.l a xs h1 f1, fun a xs h f => let ⟨h1, f1⟩ := l.k a xs h f; z.k a xs h1 f1, fun a xs h f => let ⟨h1, f1⟩ := l.kt a xs h f; z.kt a xs h1 f1, fun a ob v h => ?_, fun a h => ⟨(l.x a h).1, ?_⟩⟩
  · have h := l.z a ob v h
    show upd W2.H D o a = _
    rw [upd_ne fun q => by rw [q, e] at h; cases h; cases hu]
    exact h
  · show upd W2.H D o a = _
    rw [upd_ne (by intro q; subst q; exact np h)]
    exact (l.x a h).2
theorem Ok.wr {o u : HO} (k : Ok K W2) (p : D ∈ W2.pv) (e : W2.H D = some u) (hu : HO.live u = true) : Ok K (W2.wr D o) := by
  refine ⟨k.len, k.nd, fun n a v h1 h2 => (k.ob n a v h1 h2).mono0 (le0_wr k p e hu) (upd_ne fun q => k.pn D p (q ▸ List.mem_of_getElem? h1)), k.pn, fun a h => ?_, fun a h => ⟨tab_upd (k.tb a h).1 fun q => (k.tb a h).2.2 (q ▸ p), (k.tb a h).2⟩,
    fun a h => ⟨(k.lm a h).1.mono (upd_ne fun q => (k.lm a h).2.2.1 (q ▸ p)) (le0_wr (o := o) k p e hu).z, (k.lm a h).2⟩⟩
  by_cases q : a = D
  · exact ⟨o, by rw [q]; exact upd_same⟩
  · obtain ⟨v, hv⟩ := k.ph a h
    exact ⟨v, (upd_ne q).trans hv⟩
theorem Cst.app (c : Cst K W1 D W2 acc accD) (np : D ∉ W1.pv) {y : V} {d : DL.D} (r : Rp K W2 y d) : Cst K W1 D (W2.wr D (.lst (acc ++ [y]))) (acc ++ [y]) (accD ++ [d]) :=
  have z := le0_wr (o := .lst (acc ++ [y])) c.ok c.pv c.at' rfl
  ⟨le_wr c.le c.ok c.pv np c.at' rfl, c.ok.wr c.pv c.at' rfl, c.pv, upd_same, (c.r.append (.one r)).mono0 z⟩
theorem Cst.appZ (c : Cst K W1 D W2 acc accD) {o : HO} : LeZ K W2 (W2.wr D o) := by
  have z := le0_wr (o := o) c.ok c.pv c.at' rfl
  refine ⟨z.β, z.t, z.l, z.k, z.kt, fun a ob v h => ?_⟩
  show upd W2.H D o a = _
  rw [upd_ne fun q => by rw [q, c.at'] at h; cases h]
  exact h
/-- the private object is private no more -/
def Wd.unpv (W : Wd) (l : List Addr) : Wd := { W with pv := l }
theorem le_unpv (l : Le K W1 W2) : Le K W1 (W2.unpv W1.pv) := by
  have f : ∀ a, W2.frz a → (W2.unpv W1.pv).frz a := fun a f => ⟨f.1, fun h => f.2 (l.x a h).1⟩
  exact ⟨l.β, l.t, fun a xs h q => ⟨(l.l a xs h q).1, f a (l.l a xs h q).2⟩, fun a xs h q => ⟨(l.k a xs h q).1, f a (l.k a xs h q).2⟩, fun a xs h q => ⟨(l.kt a xs h q).1, f a (l.kt a xs h q).2⟩, l.z, fun a h => ⟨h, (l.x a h).2⟩⟩
theorem le0_unpv (l : Le K W1 W2) : Le0 K W2 (W2.unpv W1.pv) := by
  have f : ∀ a, W2.frz a → (W2.unpv W1.pv).frz a := fun a f => ⟨f.1, fun h => f.2 (l.x a h).1⟩
  exact ⟨fun _ _ h => h, fun _ _ h => h, fun a xs h q => ⟨h, f a q⟩, fun a xs h q => ⟨h, f a q⟩, fun a xs h q => ⟨h, f a q⟩, fun _ _ _ h => h⟩
theorem Ok.unpv (k : Ok K W2) (l : Le K W1 W2) : Ok K (W2.unpv W1.pv) :=
  ⟨k.len, k.nd, fun n a o h1 h2 => (k.ob n a o h1 h2).mono0 (le0_unpv l) rfl, fun a h => k.pn a (l.x a h).1, fun a h => k.ph a (l.x a h).1, fun a h => ⟨(k.tb a h).1, (k.tb a h).2.1, fun q => (k.tb a h).2.2 (l.x a q).1⟩,
    fun a h => ⟨(k.lm a h).1, (k.lm a h).2.1, fun q => (k.lm a h).2.2.1 (l.x _ q).1, (k.lm a h).2.2.2⟩⟩
theorem Cst.fin (c : Cst K W1 D W2 acc accD) (np : D ∉ W1.pv) : Le K W1 (W2.unpv W1.pv) ∧ Ok K (W2.unpv W1.pv) ∧ Rp K (W2.unpv W1.pv) (.ref D) (.lst accD) :=
  ⟨le_unpv c.le, c.ok.unpv c.le, .lst (.inl c.at') ⟨fun n h => absurd (List.mem_of_getElem? h) (c.ok.pn D c.pv), np⟩ (c.r.mono0 (le0_unpv c.le))⟩
end

/-- the private object is a changing object now -/
def Wd.pub (W : Wd) (l : List Addr) (D : Addr) (o : O) : Wd := { β := W.β ++ [D], M := W.M ++ [o], H := W.H, pv := l }
section
variable {K : KP} {W1 W2 : Wd} {D : Addr}
theorem pub_frz (k : Ok K W2) (l : Le K W1 W2) (p : D ∈ W2.pv) {o : O} : ∀ a, W2.frz a → (W2.pub W1.pv D o).frz a := fun a f => by
  refine ⟨fun n h => ?_, fun h => f.2 (l.x a h).1⟩
  have h : (W2.β ++ [D])[n]? = some a := h
  show (W2.M ++ [o])[n]? = some .dead
  rw [getElem?_snoc] at h ⊢
  rw [← k.len]
  by_cases hn : n < W2.β.length
  · rw [if_pos hn] at h ⊢; exact f.1 n h
  · rw [if_neg hn] at h
    by_cases e : n = W2.β.length
    · rw [if_pos e] at h; cases h; exact absurd p f.2
    · rw [if_neg e] at h; cases h
theorem le0_pub (k : Ok K W2) (l : Le K W1 W2) (p : D ∈ W2.pv) {o : O} : Le0 K W2 (W2.pub W1.pv D o) := by
  have f := pub_frz (o := o) k l p
  refine ⟨fun n a h => ?_, fun _ _ h => h, fun a xs h q => ⟨h, f a q⟩, fun a xs h q => ⟨h, f a q⟩, fun a xs h q => ⟨h, f a q⟩, fun _ _ _ h => h⟩
  show (W2.β ++ [D])[n]? = some a
  rw [getElem?_snoc, if_pos (List.getElem?_eq_some_iff.mp h).1]; exact h
theorem le_pub (k : Ok K W2) (l : Le K W1 W2) (p : D ∈ W2.pv) {o : O} : Le K W1 (W2.pub W1.pv D o) := by
  have z := le0_pub (o := o) k l p
  exact ⟨fun n a h => z.β n a (l.β n a h), fun a xs h => l.t a xs h, fun a xs h f => let ⟨h1, f1⟩ := l.l a xs h f; z.l a xs h1 f1, fun a xs h f => let ⟨h1, f1⟩ := l.k a xs h f; z.k a xs h1 f1, fun a xs h f => let ⟨h1, f1⟩ := l.kt a xs h f; z.kt a xs h1 f1, l.z, fun a h => ⟨h, (l.x a h).2⟩⟩
theorem Ok.pub (k : Ok K W2) (l : Le K W1 W2) (p : D ∈ W2.pv) (np : D ∉ W1.pv) {o : O} (new : OOk K (W2.pub W1.pv D o) D o) : Ok K (W2.pub W1.pv D o) := by
  refine ⟨by show (W2.β ++ [D]).length = (W2.M ++ [o]).length; simp [k.len], ?_, fun n a u h1 h2 => ?_, fun a h hb => ?_, fun a h => k.ph a (l.x a h).1, fun a h => ⟨(k.tb a h).1, fun hb => (List.mem_append.mp hb).elim (k.tb a h).2.1 fun hb => (k.tb a h).2.2 (List.mem_singleton.mp hb ▸ p), fun q => (k.tb a h).2.2 (l.x a q).1⟩,
    fun a h => ⟨(k.lm a h).1, fun hb => (List.mem_append.mp hb).elim (k.lm a h).2.1 fun hb => (k.lm a h).2.2.1 (List.mem_singleton.mp hb ▸ p), fun q => (k.lm a h).2.2.1 (l.x _ q).1, (k.lm a h).2.2.2⟩⟩
  · show (W2.β ++ [D]).Nodup
    rw [List.nodup_append]
    refine ⟨k.nd, by simp, fun a ha b hb => ?_⟩
    simp at hb
    subst hb
    exact fun e => k.pn b p (e ▸ ha)
  · have h1 : (W2.β ++ [D])[n]? = some a := h1
    have h2 : (W2.M ++ [o])[n]? = some u := h2
    rw [getElem?_snoc] at h1 h2
    rw [← k.len] at h2
    by_cases hn : n < W2.β.length
    · rw [if_pos hn] at h1 h2
      exact (k.ob n a u h1 h2).mono0 (le0_pub k l p) rfl
    · rw [if_neg hn] at h1 h2
      by_cases e : n = W2.β.length
      · rw [if_pos e] at h1 h2; cases h1; cases h2; exact new
      · rw [if_neg e] at h1; cases h1
  · rcases List.mem_append.mp (show a ∈ W2.β ++ [D] from hb) with hb | hb
    · exact k.pn a (l.x a h).1 hb
    · rw [List.mem_singleton.mp hb] at h
      exact np h
/-- the value and the memory of a finished list -/
def finV (md : Bool) (l : List DL.D) (M : Mem) : DL.D := cond md (.ref M.length) (.lst l)
def finMm (md : Bool) (l : List DL.D) (M : Mem) : Mem := cond md (M ++ [.lst l]) M
theorem Cst.finish (md : Bool) {acc : List V} {accD : List DL.D} (c : Cst K W1 D W2 acc accD) (np : D ∉ W1.pv) : ∃ W3 : Wd, W3.H = W2.H ∧ W3.M = finMm md accD W2.M ∧ Le K W1 W3 ∧ Ok K W3 ∧ Rp K W3 (.ref D) (finV md accD W2.M) := by
  cases md with
  | false =>
    obtain ⟨h1, h2, h3⟩ := c.fin np
    exact ⟨W2.unpv W1.pv, rfl, rfl, h1, h2, h3⟩
  | true =>
    have z := le0_pub (o := .lst accD) c.ok c.le c.pv
    refine ⟨W2.pub W1.pv D (.lst accD), rfl, rfl, le_pub c.ok c.le c.pv, c.ok.pub c.le c.pv np ⟨acc, c.at', c.r.mono0 z⟩, .ref ?_⟩
    show (W2.β ++ [D])[W2.M.length]? = some D
    rw [← c.ok.len]
    simp
end

theorem bnd_ok {α β : Type} {m : Mo α} {f : α → Mo β} {M M2 : Mem} {b : β} (h : Mo.bnd m f M = some (.ok b, M2)) : ∃ a M1, m M = some (.ok a, M1) ∧ f a M1 = some (.ok b, M2) := by
  unfold Mo.bnd at h
  cases e : m M with
  | none => rw [e] at h; cases h
  | some p =>
    rw [e] at h
    obtain ⟨r, M1⟩ := p
    cases r with
    | error x => cases h
    | ok a => exact ⟨a, M1, rfl, h⟩
theorem bnd_of {α β : Type} {m : Mo α} {f : α → Mo β} {M M1 : Mem} {a : α} (h : m M = some (.ok a, M1)) : Mo.bnd m f M = f a M1 := by
  unfold Mo.bnd; rw [h]
theorem ret_ok {α : Type} {a b : α} {M M2 : Mem} (h : Mo.ret a M = some (.ok b, M2)) : a = b ∧ M = M2 := by
  cases h; exact ⟨rfl, rfl⟩
theorem guard_ok {α : Type} {g : Option (Nat × O)} {k : Mem → Option α} {M : Mem} {r : α} (h : guardM g k M = some r) : gdOk g M ∧ k M = some r := by
  unfold guardM at h
  split at h
  · rename_i q; exact ⟨q, h⟩
  · cases h
def Mo.ne {α : Type} (m : Mo α) : Mo α := fun M => match m M with
  | some (.ok a, M1) => some (.ok a, M1)
  | _ => none
theorem ne_ok {α : Type} {m : Mo α} {M M1 : Mem} {a : α} (h : m M = some (.ok a, M1)) : m.ne M = some (.ok a, M1) := by
  unfold Mo.ne; rw [h]
noncomputable def compL {β : Type} (g : Option (Nat × O)) (turn : DL.D → Mo (List β)) : List DL.D → Mo (List β)
  | [] => guardM g (Mo.ret [])
  | d :: r => guardM g (Mo.bnd (turn d) fun ys => Mo.bnd (compL g turn r) fun t => Mo.ret (ys ++ t))
def turn1 {β : Type} (ρ : En) (h : DL.D → En → Mo En) (c : En → Mo Bool) (e : En → Mo (List β)) (d : DL.D) : Mo (List β) := .bnd (h d ρ) fun ρ1 => .bnd (c ρ1) fun b => cond b (e ρ1) (.ret [])
def one' (e : En → Mo DL.D) (ρ : En) : Mo (List DL.D) := .bnd (e ρ) fun y => .ret [y]
theorem compL_cons {β : Type} {g : Option (Nat × O)} {turn : DL.D → Mo (List β)} {d : DL.D} {r : List DL.D} {l : List β} {M M' : Mem} (h : compL g turn (d :: r) M = some (.ok l, M')) : gdOk g M ∧ ∃ ys M1 t, turn d M = some (.ok ys, M1) ∧ compL g turn r M1 = some (.ok t, M') ∧ l = ys ++ t := by
  obtain ⟨h1, h2⟩ := guard_ok h
  obtain ⟨ys, M1, e1, h3⟩ := bnd_ok h2
  obtain ⟨t, M2, e2, h4⟩ := bnd_ok h3
  obtain ⟨rfl, rfl⟩ := ret_ok h4
  exact ⟨h1, ys, M1, t, e1, e2, rfl⟩
theorem compL_nil {β : Type} {g : Option (Nat × O)} {turn : DL.D → Mo (List β)} {l : List β} {M M' : Mem} (h : compL g turn [] M = some (.ok l, M')) : gdOk g M ∧ l = [] ∧ M' = M := by
  obtain ⟨h1, h2⟩ := guard_ok h
  obtain ⟨rfl, rfl⟩ := ret_ok h2
  exact ⟨h1, rfl, rfl⟩
theorem turn1_ok {β : Type} {ρ : En} {h : DL.D → En → Mo En} {c : En → Mo Bool} {e : En → Mo (List β)} {d : DL.D} {ys : List β} {M M' : Mem} (q : turn1 ρ h c e d M = some (.ok ys, M')) :
    ∃ ρ1 M1 b M2, h d ρ M = some (.ok ρ1, M1) ∧ c ρ1 M1 = some (.ok b, M2) ∧ ((b = true ∧ e ρ1 M2 = some (.ok ys, M')) ∨ (b = false ∧ ys = [] ∧ M' = M2)) := by
  obtain ⟨ρ1, M1, e1, q⟩ := bnd_ok q
  obtain ⟨b, M2, e2, q⟩ := bnd_ok q
  refine ⟨ρ1, M1, b, M2, e1, e2, ?_⟩
  cases b with
  | true => exact .inl ⟨rfl, q⟩
  | false =>
    obtain ⟨rfl, rfl⟩ := ret_ok q
    exact .inr ⟨rfl, rfl, rfl⟩
section
variable {S : SC} {α : Type}
theorem post_of {W : Wd} {σ : L2.St} {m : Mo α} {a : α} {M1 : Mem} {Q : α → Wd → Prop} (h : m W.M = some (.ok a, M1)) (q : ∀ W', Le S.K W W' → Ok S.K W' → W'.M = M1 → Q a W') : Post S W σ (m W.M) Q := by
  rw [h]; exact q
theorem post0_of {W : Wd} {m : Mo α} {a : α} {M1 : Mem} {Q : α → Wd → Prop} (h : m W.M = some (.ok a, M1)) (q : ∀ W', Le S.K W W' → Ok S.K W' → W'.M = M1 → Q a W') : Post0 S W (m W.M) Q := by
  rw [h]; exact q
theorem compL_len {β : Type} {g : Option (Nat × O)} {turn : DL.D → Mo (List β)} (ht : ∀ d ys M M', turn d M = some (.ok ys, M') → ys.length ≤ 1) : ∀ (r : List DL.D) (l : List β) (M M' : Mem), compL g turn r M = some (.ok l, M') → l.length ≤ r.length
  | [], l, M, M', h => by rw [(compL_nil h).2.1]; exact Nat.le_refl _
  | d :: r, l, M, M', h => by
    obtain ⟨_, ys, M1, t, e1, e2, rfl⟩ := compL_cons h
    have := compL_len ht r t M1 M' e2
    have := ht d ys M M1 e1
    simp only [List.length_append, List.length_cons]; omega
/-- the comprehension's value, from its items -/
def finD (md : Bool) (l : List DL.D) : Mo DL.D := fun M => some (.ok (finV md l M), finMm md l M)
noncomputable def lcD (md : Bool) (ok : List DL.D → Bool) (m : Mo (List DL.D)) : Mo DL.D := .bnd m.ne fun l => cond (ok l) (finD md l) .stuck
def lenB' (l : List DL.D) : Bool := decide (l.length ≤ sizeLine)
def yesB (_ : List DL.D) : Bool := true
theorem lcD_inv {W : Wd} {σ : L2.St} {md : Bool} {ok : List DL.D → Bool} {m : Mo (List DL.D)} {Q : VK} (h : Post S W σ (lcD md ok m W.M) (PV S Q)) :
    ∃ l M', m W.M = some (.ok l, M') ∧ ok l = true ∧ ∀ W', Le S.K W W' → Ok S.K W' → W'.M = finMm md l M' → PV S Q (finV md l M') W' := by
  unfold lcD Mo.bnd Mo.ne at h
  cases e : m W.M with
  | none => simp only [e] at h; exact h.elim
  | some p =>
    obtain ⟨r, M1⟩ := p
    cases r with
    | error x => simp only [e] at h; exact h.elim
    | ok l =>
      simp only [e] at h
      cases hb : ok l with
      | false => rw [hb] at h; exact h.elim
      | true => rw [hb] at h; exact ⟨l, M1, rfl, hb, h⟩
/-- a comprehension, as a value and stored -/
structure LX (S : SC) (e : Expr) (f : En → Mo DL.D) : Prop where
  ex : ∃ t : TE, SemE S t f ∧ (∀ X, InC S X → PE X e t) ∧ ∀ X, InC S X → ∀ (i : Nat) (y : Str) (py spos : Pos), X.N[i]? = some y → X.env.scope.names.lookup y = some .local → swapsWith e (some (.Name y py)) spos.line X.env = pure true → PS X (.Assign [.Name y py] e spos) (tAsg t (gName i))
theorem ex_lx {e : Expr} {f : En → Mo DL.D} (h : LX S e f) : EX S e f := let ⟨t, h1, h2, _⟩ := h.ex; ⟨t, h2, h1⟩
/-- x = [..] on one line -/
theorem sx_setC (i : Nat) {x : Str} {e : Expr} {f : En → Mo DL.D} {pos pos' : Pos} (he : LX S e f) (hi : S.N[i]? = some x := by rfl) (hx : S.sc.names.lookup x = some .local := by rfl)
    (hs : ∀ X, InC S X → swapsWith e (some (.Name x pos')) pos.line X.env = pure true) : SX S (.Assign [.Name x pos'] e pos) (fun ρ => sE (f ρ) ρ fun d M => some (.nx (ρ.set i (some d)), M)) := by
  obtain ⟨te, e2, _, e1⟩ := he.ex
  refine ⟨tAsg te (gName i), fun X c => e1 X c i x pos' pos (by rw [c.N]; exact hi) (by rw [c.sc]; exact hx) (hs X c), fun W σ ρ D k st h => ?_⟩
  exact e2 W σ ρ _ k st (Post.imp (PostS.sE st h) fun a W1 l1 k1 q v rv => PostS.at k1 q _ ((st.mono l1).set rv i))
/-- whether the store of a comprehension comes first -/
def swB (S : SC) (scope : Scope) (y : Str) (l l' : Nat) : Bool := (l == l') && !(scope.names.any fun (n, k) => n == y && (k == .local || k == .cell))
theorem sw_lc {X : Cx} {elt : Expr} {gs : List Comprehension} {scope : Scope} {pos py : Pos} {y : Str} {l : Nat} (c : InC S X) (hk : S.sc.kind = .function) (hy : S.sc.names.lookup y = some .local) (h : swB S scope y py.line pos.line = true) : swapsWith (.ListComp elt gs scope pos) (some (.Name y py)) l X.env = pure true := by
  unfold swB at h
  rw [Bool.and_eq_true] at h
  exact sw_true (by rw [c.sc]; exact hk) (by rw [c.sc]; exact hy) h.1 (by simpa using h.2)
theorem sw_lcF {X : Cx} {elt : Expr} {gs : List Comprehension} {scope : Scope} {pos py : Pos} {y : Str} {l : Nat} (c : InC S X) (h : swB S scope y py.line pos.line = false) : swapsWith (.ListComp elt gs scope pos) (some (.Name y py)) l X.env = pure false := by
  unfold swB at h
  unfold swapsWith
  show pure (_ && _ && _ && _) = _
  rw [Bool.and_assoc]
  show pure (_ && ((py.line == pos.line) && !(scope.names.any fun (n, k) => n == y && (k == .local || k == .cell)))) = _
  rw [h, Bool.and_false]
theorem sw_lcC {X : Cx} {elt : Expr} {gs : List Comprehension} {scope : Scope} {pos py : Pos} {y : Str} {l : Nat} (c : InC S X) (h : S.sc.names.lookup y = some .cell) : swapsWith (.ListComp elt gs scope pos) (some (.Name y py)) l X.env = pure false := by
  have ky : X.env.kindOf y = some .cell := by
    show X.env.scope.names.lookup y = _
    rw [c.sc]; exact h
  unfold swapsWith
  show pure (_ && (X.env.kindOf y == some NameKind.local) && _ && _) = _
  rw [ky]
  have : ((some NameKind.cell : Option NameKind) == some NameKind.local) = false := by decide
  rw [this, Bool.and_false, Bool.false_and, Bool.false_and]
theorem lx_lc1 (md : Bool) {elt tg iter : Expr} {ifs : List Expr} {scope : Scope} (own : List (Str × Nat)) {pos : Pos} {f : En → Mo Itd'} {h : DL.D → En → Mo En} {c : En → Mo Bool} {e : En → Mo DL.D} (hN : S.N.Nodup) (ok : BlkOk S.N S.sc scope own)
    (hi : IX S tg iter f) (hg : GV (S.blk scope) (own.map (·.2)) tg h) (ht : TXs (S.blk scope) ifs c) (he : EX (S.blk scope) elt e) (hs : ∀ (env : PySem.Env) x, foldedSetIterable iter env x = pure x := by intro _ _; rfl) :
    LX S (.ListComp elt [⟨tg, iter, ifs, 0⟩] scope pos) (fun ρ => .bnd (f ρ) fun it => lcD md yesB (compL it.gd (turn1 (wipeR ρ (own.map (·.2))) h c (one' e)) it.items)) := by
  obtain ⟨wi, i1, i2⟩ := hi.ex
  obtain ⟨g, g1, g2⟩ := hg.ex
  obtain ⟨tt, t1, t2⟩ := ht.ex
  obtain ⟨te, e1, e2⟩ := he.ex
  refine ⟨tLc wi g tt te (own.map (·.2)), fun W σ ρ Q k st hh => ?_, fun X c => pe_lc c.calm (by rw [c.N]; exact hN) (i1 X c) (by rw [c.N, c.sc]; exact ok) (fun s H C cl fp => g1 _ (c.blk scope s H C cl fp)) (fun s H C cl fp => t1 _ (c.blk scope s H C cl fp)) (fun s H C cl fp => e1 _ (c.blk scope s H C cl fp)) (hs X.env),
    fun X c i y py spos hy hyl hsw => ps_setLc c.calm (by rw [c.N]; exact hN) hy hyl hsw (i1 X c) (by rw [c.N, c.sc]; exact ok) (fun s H C cl fp => g1 _ (c.blk scope s H C cl fp)) (fun s H C cl fp => t1 _ (c.blk scope s H C cl fp)) (fun s H C cl fp => e1 _ (c.blk scope s H C cl fp)) (hs X.env)⟩
  refine i2 W σ ρ _ k st (Post.imp (Post.bnd hh) fun it W1 l1 k1 q J hJ => ?_)
  intro D hD
  obtain ⟨l, M', hl, _, q⟩ := lcD_inv q
  have np := k1.nopv hD
  have hsz : l.length ≤ sizeLine := Nat.le_trans (compL_len (fun d ys M M' z => by
    obtain ⟨ρ1, M1, b, M2, _, _, z⟩ := turn1_ok z
    rcases z with ⟨_, z⟩ | ⟨_, rfl, _⟩
    · obtain ⟨y, M3, _, z⟩ := bnd_ok z
      obtain ⟨rfl, _⟩ := ret_ok z
      exact Nat.le_refl _
    · exact Nat.zero_le _) _ _ _ _ hl) hJ.1
  refine ⟨fun i m H' => m = it.items.length - i ∧ i ≤ it.items.length ∧ ∃ W2 acc accD t, Cst S.K W1 D W2 acc accD ∧ W2.H = H' ∧ compL it.gd (turn1 (wipeR ρ (own.map (·.2))) h c (one' e)) (it.items.drop i) W2.M = some (.ok t, M') ∧ accD ++ t = l,
    ⟨_, rfl, Nat.zero_le _, W1.priv D (.lst []), [], [], l, Cst.init k1 hD, rfl, hl, rfl⟩, ?_⟩
  rintro i m H' ⟨rfl, hi, W2, acc, accD, t, c2, rfl, hc, el⟩
  by_cases hlt : i < it.items.length
  · rw [List.drop_eq_getElem_cons hlt] at hc
    obtain ⟨hgd, ys, M3, t', hturn, hrest, rfl⟩ := compL_cons hc
    obtain ⟨go, yl⟩ := (hJ.2 W2 c2.le.toZ c2.ok hgd).1 i hlt
    refine .inr ⟨go, fun H3 => ∃ W3 acc' accD', Cst S.K W1 D W3 acc' accD' ∧ W3.H = H3 ∧ W3.M = M3 ∧ accD' = accD ++ ys, ?_, ?_⟩
    · rintro H3 ⟨W3, acc', accD', a1, a2, a3, a4⟩
      exact ⟨_, by omega, rfl, hlt, W3, acc', accD', t', a1, a2, by rw [a3]; exact hrest, by rw [a4, List.append_assoc]; exact el⟩
    · intro x H' hy
      obtain ⟨W3, l3, k3, m3, rfl, d, hd, rd⟩ := yl x H' hy
      have hd' : d = it.items[i] := by
        rw [List.getElem?_eq_getElem hlt] at hd
        exact (Option.some.inj hd).symm
      subst hd'
      obtain ⟨ρ1, M4, b, M5, q1, q2, q3⟩ := turn1_ok hturn
      rw [← m3] at q1
      have c3 := c2.mono l3 k3
      have st3 : StR S.K W3 (wipe σ (own.map (·.2))) (wipeR ρ (own.map (·.2))) := ((st.mono l1).mono c3.le).wipe _
      refine g2 W3 _ _ x _ _ k3 st3 rd (post0_of q1 fun W4 l4 k4 m4 σ4 st4 hw => ⟨hw.trans ?_, ?_⟩)
      · exact wipe_ext (wipe_length _ _) fun j hj => wipe_out hj
      rw [← m4] at q2
      refine t2 W4 σ4 ρ1 _ k4 st4 (post_of q2 fun W5 l5 k5 m5 => ?_)
      have c5 := (c3.mono l4 k4).mono l5 k5
      rcases q3 with ⟨rfl, q3⟩ | ⟨rfl, rfl, rfl⟩
      · rw [if_pos rfl]
        obtain ⟨y, M6, q5, q6⟩ := bnd_ok (m := e ρ1) q3
        obtain ⟨rfl, rfl⟩ := ret_ok q6
        rw [← m5] at q5
        refine e2 W5 σ4 ρ1 _ k5 (st4.mono l5) (post_of q5 fun W6 l6 k6 m6 v rv => ?_)
        have c6 := c5.mono l6 k6
        refine ⟨acc, c6.at', ?_, W6.wr D (.lst (acc ++ [v])), acc ++ [v], accD ++ [y], c6.app np rv, rfl, m6, rfl⟩
        rw [c6.r.length]
        have : (accD ++ ([y] ++ t')).length ≤ sizeLine := by rw [el]; exact hsz
        simp at this; omega
      · exact ⟨W5, acc, accD, c5, rfl, m5, by simp⟩
  · have e : i = it.items.length := by omega
    subst e
    rw [List.drop_length] at hc
    obtain ⟨hgd, rfl, rfl⟩ := compL_nil hc
    rw [List.append_nil] at el
    subst el
    obtain ⟨W3, w1, w2, w3, w4, w5⟩ := c2.finish md np
    refine .inl ⟨(hJ.2 W2 c2.le.toZ c2.ok hgd).2, ?_⟩
    rw [← w1]
    exact q W3 w3 w4 w2 _ w5

theorem lx_lc2 (md : Bool) {elt tg iter tg1 iter1 : Expr} {ifs ifs1 : List Expr} {scope : Scope} (own : List (Str × Nat)) (vs1 : List Nat) {pos : Pos} {f f1 : En → Mo Itd'} {h h1 : DL.D → En → Mo En} {c c1 : En → Mo Bool} {e : En → Mo DL.D} (hN : S.N.Nodup) (ok : BlkOk S.N S.sc scope own)
    (hv : ∀ i ∈ vs1, i ∈ own.map (·.2)) (hi : IX S tg iter f) (hg : GV (S.blk scope) (own.map (·.2)) tg h) (ht : TXs (S.blk scope) ifs c) (hi1 : IX (S.blk scope) tg1 iter1 f1) (hg1 : GV (S.blk scope) vs1 tg1 h1) (ht1 : TXs (S.blk scope) ifs1 c1) (he : EX (S.blk scope) elt e)
    (hs : ∀ (env : PySem.Env) x, foldedSetIterable iter env x = pure x := by intro _ _; rfl) (hs1 : ∀ (env : PySem.Env) x, foldedSetIterable iter1 env x = pure x := by intro _ _; rfl) :
    LX S (.ListComp elt [⟨tg, iter, ifs, 0⟩, ⟨tg1, iter1, ifs1, 0⟩] scope pos)
      (fun ρ => .bnd (f ρ) fun it => lcD md lenB' (compL it.gd (turn1 (wipeR ρ (own.map (·.2))) h c fun ρ1 => .bnd (f1 ρ1) fun it1 => compL it1.gd (turn1 (wipeR ρ1 vs1) h1 c1 (one' e)) it1.items) it.items)) := by
  obtain ⟨wi, i1, i2⟩ := hi.ex
  obtain ⟨g, g1, g2⟩ := hg.ex
  obtain ⟨tt, t1, t2⟩ := ht.ex
  obtain ⟨wi', j1, j2⟩ := hi1.ex
  obtain ⟨g', g1', g2'⟩ := hg1.ex
  obtain ⟨tt', t1', t2'⟩ := ht1.ex
  obtain ⟨te, e1, e2⟩ := he.ex
  refine ⟨tLc2 wi g tt wi' g' tt' te (own.map (·.2)) vs1, fun W σ ρ Q k st hh => ?_, fun X c => pe_lc2 c.calm (by rw [c.N]; exact hN) (i1 X c) (by rw [c.N, c.sc]; exact ok) hv (fun s H C cl fp => g1 _ (c.blk scope s H C cl fp)) (fun s H C cl fp => t1 _ (c.blk scope s H C cl fp)) (fun s H C cl fp => j1 _ (c.blk scope s H C cl fp)) (fun s H C cl fp => g1' _ (c.blk scope s H C cl fp)) (fun s H C cl fp => t1' _ (c.blk scope s H C cl fp)) (fun s H C cl fp => e1 _ (c.blk scope s H C cl fp)) (hs X.env) hs1,
    fun X c i y py spos hy hyl hsw => ps_setLc2 c.calm (by rw [c.N]; exact hN) hy hyl hsw (i1 X c) (by rw [c.N, c.sc]; exact ok) hv (fun s H C cl fp => g1 _ (c.blk scope s H C cl fp)) (fun s H C cl fp => t1 _ (c.blk scope s H C cl fp)) (fun s H C cl fp => j1 _ (c.blk scope s H C cl fp)) (fun s H C cl fp => g1' _ (c.blk scope s H C cl fp)) (fun s H C cl fp => t1' _ (c.blk scope s H C cl fp)) (fun s H C cl fp => e1 _ (c.blk scope s H C cl fp)) (hs X.env) hs1⟩
  refine i2 W σ ρ _ k st (Post.imp (Post.bnd hh) fun it W1 l1 k1 q J hJ => ?_)
  intro D hD
  obtain ⟨l, M', hl, hlen, q⟩ := lcD_inv q
  have np := k1.nopv hD
  have hsz : l.length ≤ sizeLine := by unfold lenB' at hlen; simpa using hlen
  refine ⟨fun i m H' => m = it.items.length - i ∧ i ≤ it.items.length ∧ ∃ W2 acc accD t, Cst S.K W1 D W2 acc accD ∧ W2.H = H' ∧ compL it.gd (turn1 (wipeR ρ (own.map (·.2))) h c fun ρ1 => .bnd (f1 ρ1) fun it1 => compL it1.gd (turn1 (wipeR ρ1 vs1) h1 c1 (one' e)) it1.items) (it.items.drop i) W2.M = some (.ok t, M') ∧ accD ++ t = l,
    ⟨_, rfl, Nat.zero_le _, W1.priv D (.lst []), [], [], l, Cst.init k1 hD, rfl, hl, rfl⟩, ?_⟩
  rintro i m H' ⟨rfl, hi, W2, acc, accD, t, c2, rfl, hc, el⟩
  by_cases hlt : i < it.items.length
  · rw [List.drop_eq_getElem_cons hlt] at hc
    obtain ⟨hgd, ys, M3, t', hturn, hrest, rfl⟩ := compL_cons hc
    obtain ⟨go, yl⟩ := (hJ.2 W2 c2.le.toZ c2.ok hgd).1 i hlt
    refine .inr ⟨go, fun H3 => ∃ W3 acc' accD', Cst S.K W1 D W3 acc' accD' ∧ W3.H = H3 ∧ W3.M = M3 ∧ accD' = accD ++ ys, ?_, ?_⟩
    · rintro H3 ⟨W3, acc', accD', a1, a2, a3, a4⟩
      exact ⟨_, by omega, rfl, hlt, W3, acc', accD', t', a1, a2, by rw [a3]; exact hrest, by rw [a4, List.append_assoc]; exact el⟩
    · intro x H' hy
      obtain ⟨W3, l3, k3, m3, rfl, d, hd, rd⟩ := yl x H' hy
      have hd' : d = it.items[i] := by
        rw [List.getElem?_eq_getElem hlt] at hd
        exact (Option.some.inj hd).symm
      subst hd'
      obtain ⟨ρ1, M4, b, M5, q1, q2, q3⟩ := turn1_ok hturn
      rw [← m3] at q1
      have c3 := c2.mono l3 k3
      have st3 : StR S.K W3 (wipe σ (own.map (·.2))) (wipeR ρ (own.map (·.2))) := ((st.mono l1).mono c3.le).wipe _
      refine g2 W3 _ _ x _ _ k3 st3 rd (post0_of q1 fun W4 l4 k4 m4 σ4 st4 hw => ⟨hw.trans ?_, ?_⟩)
      · exact wipe_ext (wipe_length _ _) fun j hj => wipe_out hj
      rw [← m4] at q2
      refine t2 W4 σ4 ρ1 _ k4 st4 (post_of q2 fun W5 l5 k5 m5 => ?_)
      have c5 := (c3.mono l4 k4).mono l5 k5
      rcases q3 with ⟨rfl, q3⟩ | ⟨rfl, rfl, rfl⟩
      · rw [if_pos rfl]
        obtain ⟨it1, M6, q5, q6⟩ := bnd_ok (m := f1 ρ1) q3
        rw [← m5] at q5
        refine j2 W5 σ4 ρ1 _ k5 (st4.mono l5) (post_of q5 fun W6 l6 k6 m6 J1 hJ1 => ?_)
        have c6 := c5.mono l6 k6
        rw [← m6] at q6
        refine ⟨fun j m H' => m = it1.items.length - j ∧ j ≤ it1.items.length ∧ ∃ W7 acc7 accD7 t7, Cst S.K W1 D W7 acc7 accD7 ∧ LeZ S.K W6 W7 ∧ W7.H = H' ∧ compL it1.gd (turn1 (wipeR ρ1 vs1) h1 c1 (one' e)) (it1.items.drop j) W7.M = some (.ok t7, M3) ∧ accD7 ++ t7 = accD ++ ys, ?_, ?_⟩
        · exact ⟨_, rfl, Nat.zero_le _, W6, acc, accD, ys, c6, (Le.refl _ _).toZ, rfl, q6, rfl⟩
        rintro j m H' ⟨rfl, hj, W7, acc7, accD7, t7, c7, z7, rfl, hc7, el7⟩
        by_cases hjl : j < it1.items.length
        · rw [List.drop_eq_getElem_cons hjl] at hc7
          obtain ⟨hgd7, ys7, M8, t8, hturn7, hrest7, rfl⟩ := compL_cons hc7
          obtain ⟨go7, yl7⟩ := (hJ1.2 W7 z7 c7.ok hgd7).1 j hjl
          refine .inr ⟨go7, fun H3 => ∃ W3 acc' accD', Cst S.K W1 D W3 acc' accD' ∧ LeZ S.K W6 W3 ∧ W3.H = H3 ∧ W3.M = M8 ∧ accD' = accD7 ++ ys7, ?_, ?_⟩
          · rintro H3 ⟨W3, acc', accD', a1, az, a2, a3, a4⟩
            exact ⟨_, by omega, rfl, hjl, W3, acc', accD', t8, a1, az, a2, by rw [a3]; exact hrest7, by rw [a4, List.append_assoc]; exact el7⟩
          · intro x H' hy
            obtain ⟨W8, l8, k8, m8, rfl, d, hd, rd⟩ := yl7 x H' hy
            have hd' : d = it1.items[j] := by
              rw [List.getElem?_eq_getElem hjl] at hd
              exact (Option.some.inj hd).symm
            subst hd'
            obtain ⟨ρ2, M9, b, M10, p1, p2, p3⟩ := turn1_ok hturn7
            rw [← m8] at p1
            have c8 := c7.mono l8 k8
            have z8 := z7.trans l8.toZ
            have st8 : StR S.K W8 (wipe σ4 vs1) (wipeR ρ1 vs1) := StR.wipe ⟨(st4.mono (l5.trans l6)).1, fun i d hd => let ⟨v, h1, h2⟩ := (st4.mono (l5.trans l6)).2 i d hd; ⟨v, h1, h2.mono0 z8.zero⟩⟩ _
            refine g2' W8 _ _ x _ _ k8 st8 rd (post0_of p1 fun W9 l9 k9 m9 σ9 st9 hw => ⟨hw.trans ?_, ?_⟩)
            · exact wipe_ext (wipe_length _ _) fun j hj => wipe_out hj
            rw [← m9] at p2
            refine t2' W9 σ9 ρ2 _ k9 st9 (post_of p2 fun W10 l10 k10 m10 => ?_)
            have c10 := (c8.mono l9 k9).mono l10 k10
            have z10 := (z8.trans l9.toZ).trans l10.toZ
            rcases p3 with ⟨rfl, p3⟩ | ⟨rfl, rfl, rfl⟩
            · rw [if_pos rfl]
              obtain ⟨y, M11, p5, p6⟩ := bnd_ok (m := e ρ2) p3
              obtain ⟨rfl, rfl⟩ := ret_ok p6
              rw [← m10] at p5
              refine e2 W10 σ9 ρ2 _ k10 (st9.mono l10) (post_of p5 fun W11 l11 k11 m11 v rv => ?_)
              have c11 := c10.mono l11 k11
              refine ⟨acc7, c11.at', ?_, W11.wr D (.lst (acc7 ++ [v])), acc7 ++ [v], accD7 ++ [y], c11.app np rv, (z10.trans l11.toZ).trans c11.appZ, rfl, m11, rfl⟩
              rw [c11.r.length]
              have h1 : (accD7 ++ ([y] ++ t8)).length = (accD ++ ys).length := by rw [el7]
              have h2 : (accD ++ (ys ++ t')).length ≤ sizeLine := by rw [el]; exact hsz
              simp at h1 h2; omega
            · exact ⟨W10, acc7, accD7, c10, z10, rfl, m10, by simp⟩
        · have e : j = it1.items.length := by omega
          subst e
          rw [List.drop_length] at hc7
          obtain ⟨hgd7, rfl, hM⟩ := compL_nil hc7
          exact .inl ⟨(hJ1.2 W7 z7 c7.ok hgd7).2, W7, acc7, accD7, c7, rfl, hM.symm, by simpa using el7⟩
      · exact ⟨W5, acc, accD, c5, rfl, m5, by simp⟩
  · have e : i = it.items.length := by omega
    subst e
    rw [List.drop_length] at hc
    obtain ⟨hgd, rfl, rfl⟩ := compL_nil hc
    rw [List.append_nil] at el
    subst el
    obtain ⟨W3, w1, w2, w3, w4, w5⟩ := c2.finish md np
    refine .inl ⟨(hJ.2 W2 c2.le.toZ c2.ok hgd).2, ?_⟩
    rw [← w1]
    exact q W3 w3 w4 w2 _ w5
end
end DL
namespace DL
open PySem PySem.Spec PyProof.Rows L2

section
variable {prog : Program} {w : World} {A : Around} {E : Value → Shared → Prop} {s : Shared}
theorem extend_rev {it l S : Addr} {items : Array Value} {res : Value} {c₀ : Nat} {R : Result → Shared → Prop} (hh : A.handled = none) (hit : s.heap.IsRevIter it l ((items.size : Int) - 1)) (hl : s.heap.IsList l items) (hne : l ≠ it) (hn : items.size ≤ sizeLine)
    (hSi : S ≠ it) (hSl : S ≠ l) (hS : s.heap.get? S = some { cls := .type "list", data := .seq #[] c₀ })
    (hR : ∀ h' tk acc' c', (∀ b o, b ≠ S → b ≠ it → s.heap.get? b = some o → h'.get? b = some o) → h'.get? S = some { cls := .type "list", dict := none, data := .seq acc' c', slots := #[] } → ItemsOf (fun i v => items[items.size - 1 - i]? = some v) acc' items.size → R (.ok (.ret res)) { s with heap := h', toks := tk }) :
    wpAny (model prog w) A.in1 (Builtin.List.listExtendWith (.ref S) (.ref it) res)
      (fun fin s' => match fin with | .done f => R (.ok f) s' | .again c' => c'.quiet = true ∧ codeAny (model prog w) A c' R s') (fun e s' => R (.error e) s') s := by
  have W := (Walks.listRev (prog := prog) (w := w) (A := A.in1) hh it l hne items).toS
  have hSf : S ∉ [it, l] := by simp only [List.mem_cons, List.not_mem_nil, or_false, not_or]; exact ⟨hSi, hSl⟩
  have hT : s.TypeIs (.ref it) "list_reverseiterator" := Heap.IsRevIter.typeIs hit
  have h1 : Builtin.List.listSameRef (.ref S) (.ref it) = false := by simp [Builtin.List.listSameRef, hSi]
  unfold Builtin.List.listExtendWith
  refine wpAny_bind (wpAny_typeOf hT ?_)
  rw [if_neg (by rw [h1]; decide)]
  refine wpAny_bind (wpAny_pyIter_revIter hit ?_)
  refine wpAny_bind (wpAny_holding ?_)
  unfold Builtin.List.listLengthHint
  refine wpAny_bind (wpAny_specialOf hT RT.nolen_lri ?_)
  show wpAny _ A.in1 (specialOf (Value.ref it) (Str.ofString "__length_hint__") >>= _) _ _ _
  refine wpAny_bind (wpAny_specialOf hT RT.hint_lri ?_)
  generalize hid : ("list_reverseiterator.__length_hint__" : String) = id0
  wp_delta
  rw [show splitId id0 = some ("list_reverseiterator", "__length_hint__") from by subst hid; decide +kernel]
  subst hid
  refine wpAny_bind (wpAny_isInstance (b := true) hT (by rw [isSubtype_type]; kernel_rfl) ?_)
  refine wpAny_pure ?_
  rw [if_neg (by decide)]
  have e0 : ((items.size : Nat) : Int) - 1 - ((0 : Nat) : Int) = (items.size : Int) - 1 := by omega
  refine wpAny_pure ⟨plainId_quiet F.plain_extend_loop _, codeAny_extend_loopS W hn _ hSf _ items.size 0 _ _ _ rfl (Nat.zero_le _) ⟨Nat.zero_le _, by rw [e0]; exact hit, hl⟩ hS (ItemsOf.nil _) fun s' acc' c' hm hS' hacc => ?_⟩
  rw [Moved.eq_with hm]
  refine hR s'.heap s'.toks acc' c' (fun b o hb hb2 e => hm.heap b o (fun hmem => ?_) e) hS' hacc
  rcases List.mem_cons.mp hmem with e' | hmem
  · exact hb e'
  · exact hb2 (List.mem_singleton.mp hmem)
theorem call_list_rev {it l : Addr} {items : Array Value} {Q : Value → Shared → Prop} (hh : A.handled = none) (hit : s.heap.IsRevIter it l ((items.size : Int) - 1)) (hl : s.heap.IsList l items) (hne : l ≠ it) (hn : items.size ≤ sizeLine)
    (hQ : ∀ h' tk acc' c', (∀ b o, b ≠ it → s.heap.get? b = some o → h'.get? b = some o) → h'.get? s.heap.objs.size = some { cls := .type "list", dict := none, data := .seq acc' c', slots := #[] } → ItemsOf (fun i v => items[items.size - 1 - i]? = some v) acc' items.size → Q (.ref s.heap.objs.size) { s with heap := h', toks := tk }) :
    wpAny (model prog w) A (call (.type "list") [.ref it]) Q E s := by
  refine callType_codes (Q₁ := fun obj s₁ => obj = .ref s.heap.objs.size ∧ s₁ = { s with heap := s.heap.push { cls := .type "list", data := .seq #[] } }) PySem.F.called_list (PySem.F.typeCall_list_1 _) PySem.F.entry_list_init
    (code_list_new _ ⟨rfl, rfl⟩) fun obj s₁ h₁ => ?_
  obtain ⟨rfl, rfl⟩ := h₁
  have hS : (s.heap.push { cls := .type "list", data := .seq #[] }).get? s.heap.objs.size = some { cls := .type "list", data := .seq #[] } := Heap.get?_push_size _ rfl
  obtain ⟨oi, hoi, _⟩ := id hit
  obtain ⟨ol, hol, _⟩ := id hl
  have hSi : s.heap.objs.size ≠ it := Nat.ne_of_gt (Heap.lt_size hoi)
  have hSl : s.heap.objs.size ≠ l := Nat.ne_of_gt (Heap.lt_size hol)
  refine ⟨⟨_, hS, rfl⟩, PySem.F.args_list_init_2 _ _, ?_⟩
  show wpAny _ _ (do let old ← Builtin.List.listItems (.ref s.heap.objs.size); Builtin.List.listUpdate (.ref s.heap.objs.size) (fun _ => #[]); letGo old.toList.reverse; Builtin.List.listExtendWith (.ref s.heap.objs.size) (.ref it) .none) _ _ _
  refine wpAny_bind ?_
  unfold Builtin.List.listItems
  refine wpAny_bind (wpAny_seqItems hS rfl (wpAny_pure ?_))
  show wpAny _ _ (updateSeq s.heap.objs.size (fun _ => #[]) >>= fun _ => letGo (#[] : Array Value).toList.reverse >>= fun _ => Builtin.List.listExtendWith (.ref s.heap.objs.size) (.ref it) .none) _ _ _
  refine wpAny_bind (wpAny_updateSeq hS rfl ?_)
  have hS₂ := Heap.get?_update_self (Obj.mapSeq (fun _ => (#[] : Array Value))) hS rfl
  have oth : ∀ b o, b ≠ s.heap.objs.size → (s.heap.push { cls := .type "list", data := .seq #[] }).get? b = some o → ((s.heap.push { cls := .type "list", data := .seq #[] }).update s.heap.objs.size (Obj.mapSeq (fun _ => (#[] : Array Value)))).get? b = some o :=
    fun b o hb e => (Heap.get?_update_other _ _ (Ne.symm hb)).trans e
  refine wpAny_bind (wpAny_letGo ?_)
  refine extend_rev (A := A.in1) (items := items) (l := l) hh (hit.at fun o e => oth _ _ hSi.symm (Heap.get?_push_of_some _ e)) (hl.at fun o e => oth _ _ hSl.symm (Heap.get?_push_of_some _ e)) hne hn hSi hSl hS₂ fun h' tk acc' c' hk hS' hacc => ?_
  exact ⟨rfl, hQ h' tk acc' c' (fun b o hb e => hk b o (Nat.ne_of_lt (Heap.lt_size e)) hb (oth b o (Nat.ne_of_lt (Heap.lt_size e)) (Heap.get?_push_of_some _ e))) hS' hacc⟩
end
section
variable {X : Cx}
def tLstRev (K : PySem.W.Frag) (te : TE) : TE := fun σ H Q => te σ H fun v H1 => ∃ (a : Addr) (xs : List V), v = .ref a ∧ SqL K H1 a xs ∧ ∀ q, H1 q = none → Q (.ref q) (upd H1 q (.lst xs.reverse))
theorem pe_lstRev {e : Expr} {te : TE} {p p2 pos pos2 : Pos} (hc : X.calm = true) (hg : Gl X "list") (hm : X.mg "list" = none) (hg2 : Gl X "reversed") (hm2 : X.mg "reversed" = none) (he : PE X e te)
    (hs : starEach [e] X.env = (false, eval e X.env) :: starEach [] X.env := by rfl)
    (hs2 : starEach [.Call (.Name "reversed" p2) [e] [] pos2] X.env = (false, eval (.Call (.Name "reversed" p2) [e] [] pos2) X.env) :: starEach [] X.env := by rfl) :
    PE X (.Call (.Name "list" p) [.Call (.Name "reversed" p2) [e] [] pos2] [] pos) (tLstRev X.K te) := by
  refine ⟨fun pins s σ H Q I h => ?_⟩
  refine Call_ (ld_blt I hg hm boot_list (PyProof.Rows.callWith_type1 (args_cons (Call_ (ld_blt I hg2 hm2 PyProof.Rows.boot_reversed (PyProof.Rows.callWith_type1 (args_cons (thn (he.run pins s σ H _ I h) fun u s1 ⟨v, H1, I1, r1, q1⟩ => args_nil ?_) hs) hs rfl))) hs2) hs2 rfl))
  obtain ⟨a, xs, ev, hq, q⟩ := q1
  subst ev
  obtain rfl : u = Value.ref a := r1
  obtain ⟨its, rv, p', hz⟩ := I1.list hq
  refine PySem.call_reversed_list p'.isList (args_nil ?_)
  have k0 : ∀ b o, s1.heap.get? b = some o → (s1.heap.push (revObj a ((its.toArray.size : Int) - 1))).get? b = some o := fun b o e => Heap.get?_push_of_some _ e
  have I2 : Inv X pins σ H1 { s1 with heap := s1.heap.push (revObj a ((its.toArray.size : Int) - 1)) } := I1.kept (t' := s1.toks) k0
  obtain ⟨f0, f1, f2, f3, f4, f5⟩ := I1.fpOk (H' := H1) (b := s1.heap.objs.size) (Nat.le_refl _) (I1.hok.fresh (Nat.le_refl _))
  have hl := p'.isList
  obtain ⟨ol, hol, _⟩ := id hl
  have hne : a ≠ s1.heap.objs.size := Nat.ne_of_lt (Heap.lt_size hol)
  have hn : its.toArray.size ≤ sizeLine := by rw [List.size_toArray, ← rv.length]; exact hz
  refine call_list_rev (s := { s1 with heap := s1.heap.push (revObj a ((its.toArray.size : Int) - 1)) }) (I1.ok.hd hc) ⟨_, Heap.get?_push_size _ rfl, rfl, rfl⟩ (hl.push _) hne hn fun h' tk acc c' hk hS hi => ?_
  have hsz : (s1.heap.push (revObj a ((its.toArray.size : Int) - 1))).objs.size = s1.heap.objs.size + 1 := Heap.size_push ..
  have keep : ∀ b o, s1.heap.get? b = some o → h'.get? b = some o := fun b o e => hk b o (Nat.ne_of_lt (Heap.lt_size e)) (Heap.get?_push_of_some _ e)
  have hfr : H1 (s1.heap.push (revObj a ((its.toArray.size : Int) - 1))).objs.size = none := I1.hok.fresh (by rw [hsz]; exact Nat.le_succ _)
  refine ⟨.ref (s1.heap.push (revObj a ((its.toArray.size : Int) - 1))).objs.size, upd H1 (s1.heap.push (revObj a ((its.toArray.size : Int) - 1))).objs.size (.lst xs.reverse), I1.laid (t' := tk) keep (by rw [hsz]; exact Nat.le_succ _) (show ObjOk X.prog X.w _ _ _ (.lst xs.reverse) from ⟨by rw [List.length_reverse]; exact hz, acc.toList, c', RT.vals_rev rv hi, ?_⟩), rfl, q _ hfr⟩
  rw [Array.toArray_toList]
  exact hS

def Sq (K : KP) (H : Hp) (a : Addr) (xs : List V) : Prop := SqL K.K H a xs ∨ SqT K.K H a xs ∨ (∃ kvs, Rd H a (.dK kvs) ∧ xs = kvs.map fun kv => kV kv.1) ∨ ∃ es, Rd H a (TD K a es) ∧ xs = es.map fun e => .ref e.2.1
theorem vals_raw {es : Array DictEntry} {ks : TE3} {prog : Program} {w : World} {knd : HeapKind prog w (List Key)} {acc : Array Value} (he : es.toList = ks.map (entryOfKey knd)) (hi : ItemsOf (fun i v => ∃ en : DictEntry, es[i]? = some en ∧ v = en.key) acc es.size) : Vals (ks.map fun x => V.ref x.2.1) acc.toList := by
  have hl : es.size = ks.length := by
    have := congrArg List.length he
    simpa using this
  have ea : acc.toList = ks.map fun x => Value.ref x.2.1 := by
    apply List.ext_getElem?
    intro j
    rw [List.getElem?_map]
    cases hj : acc.toList[j]? with
    | none =>
      have h1 := List.getElem?_eq_none_iff.mp hj
      rw [Array.length_toList, hi.1, hl] at h1
      rw [List.getElem?_eq_none h1]; rfl
    | some v =>
      obtain ⟨en, hen, hv⟩ := hi.2 j v (by rw [← Array.getElem?_toList]; exact hj)
      have qe : es.toList[j]? = some en := by rw [Array.getElem?_toList]; exact hen
      rw [he, List.getElem?_map] at qe
      cases hb : ks[j]? with
      | none => rw [hb] at qe; cases qe
      | some b =>
        rw [hb] at qe
        have e2 : entryOfKey knd b = en := Option.some.inj qe
        rw [hv, ← e2]; rfl
  rw [ea]
  have e2 : (ks.map fun x => Value.ref x.2.1) = (ks.map fun x => x.2.1).map Value.ref := by rw [List.map_map]; rfl
  have e3 : (ks.map fun x => V.ref x.2.1) = (ks.map fun x => x.2.1).map V.ref := by rw [List.map_map]; rfl
  rw [e2, e3]
  exact vals_refs _
section
variable {X : Cx} {pins : List (Addr × Obj)} {σ : L2.St} {H : Hp} {s : Shared} {a : Addr} {xs : List V} {E : Value → Shared → Prop}
theorem Sq.len (I : Inv X pins σ H s) (h : Sq (XK X) H a xs) : xs.length ≤ sizeLine := by
  rcases h with h | h | ⟨kvs, h, rfl⟩ | ⟨es, h, rfl⟩
  · exact (szH I [] []).l a xs h
  · exact (szH I [] []).t a xs h
  · rw [List.length_map]; exact (szH I [] []).k a kvs h
  · rw [List.length_map]; exact (szH I [] []).kt a es h
theorem collect_sq {R : List Value → Shared → Prop} {A : Around} (hh : A.handled = none) (I : Inv X pins σ H s) (h : Sq (XK X) H a xs) (hR : ∀ (h' : Heap) (tk : Nat) (out : List Value), (∀ b o, s.heap.get? b = some o → h'.get? b = some o) → Vals xs out → R out { s with heap := h', toks := tk }) :
    wpAny (model X.prog X.w) A (collect (.ref a)) R E s := by
  rcases h with h | h | ⟨kvs, h, rfl⟩ | ⟨es, h, rfl⟩
  · obtain ⟨its, rv, p, hz⟩ := I.list h
    obtain ⟨o, ho, hc, n, hd⟩ := id p.isList
    exact wpAny_collect_seq a (.inl rfl) ho hc hd (fun h' hk => hR h' s.toks its hk rv) (by rw [List.size_toArray, ← rv.length]; exact hz)
  · obtain ⟨its, rv, p, hz⟩ := I.tuple h
    obtain ⟨o, ho, hc, n, hd⟩ := id p
    exact wpAny_collect_seq a (.inr rfl) ho hc hd (fun h' hk => hR h' s.toks its hk rv) (by rw [List.size_toArray, ← rv.length]; exact hz)
  · obtain ⟨z, lo, vs, rel, dd⟩ := dk_rd I.hok h
    obtain ⟨ep, hat⟩ := dd.dictAt
    have ek : (kvs.map fun kv => kV kv.1) = vs.map fun p => kV p.1 := by
      have e := congrArg (List.map kV) rel.keys
      rw [List.map_map, List.map_map] at e
      exact e
    refine PySem.W.kdu_collect (PySem.W.kdl_dict (knd := mixKind X.prog X.w) (kvs := vs) (ep := ep) lo) hh hat (by rw [← rel.length]; exact z) fun h' tk acc hk hacc => hR h' tk acc.toList hk ?_
    rw [ek]
    exact keys_at (by rw [Array.length_toList]; exact hacc.1) fun j v e => hacc.2 j v (by rw [← Array.getElem?_toList]; exact e)
  · obtain ⟨z, lo, o, es', ep, h1, h2, h3, h4, h5⟩ := td_at I h
    have hl : es'.size = es.length := by
      have := congrArg List.length h4
      simpa using this
    exact PySem.W.kdu_collect (kdl_raw lo h2 h3) hh h1 (by omega) fun h' tk acc hk hacc => hR h' tk acc.toList hk (vals_raw h4 hacc)
/-- sorted(x) -/
def rSorted (K : KP) : List V → Hp → VK → Prop := fun vs H Q => ∃ (a : Addr) (xs : List V) (bs : List (V × DL.D × PyData)), vs = [.ref a] ∧ Sq K H a xs ∧ xs = bs.map (·.1) ∧ DpAll K.K H xs (bs.map (·.2.2)) ∧ PySem.W.AllAlike (bs.map (·.2.2)) ∧ PySem.W.Sortable (bs.map (·.2.2)) ∧ (∀ b ∈ bs, b.2.2.depth ≤ 60) ∧
  ∀ p, H p = none → Q (.ref p) (upd H p (.lst ((bs.mergeSort (PySem.W.dataLe false fun b => b.2.2)).map (·.1))))
theorem vals_fst : ∀ {out : List Value} {bs : List (V × DL.D × PyData)}, PySem.W.EachIs (fun v b => RelV b.1 v) out bs → Vals (bs.map (·.1)) out
  | _, _, .nil => .nil
  | _, _, .cons h t => .cons h (vals_fst t)
theorem fst_vals : ∀ {out : List Value} {bs : List (V × DL.D × PyData)}, Vals (bs.map (·.1)) out → PySem.W.EachIs (fun v b => RelV b.1 v) out bs
  | [], [], _ => .nil
  | [], _ :: _, h => by cases h
  | _ :: _, [], h => by cases h
  | _ :: _, _ :: _, .cons h t => .cons h (fst_vals t)
theorem readsAll_each' {h : Heap} : ∀ {out : List Value} {bs : List (V × DL.D × PyData)} {as : List Addr}, ReadsAll h out (bs.map (·.2.2)) as → PySem.W.EachIs (fun v b => ∃ as, Reads h v b.2.2 as) out bs
  | _, [], _, h => by cases h; exact .nil
  | _, _ :: _, _, h => by
    cases h with
    | cons h1 h2 => exact .cons ⟨_, h1⟩ (readsAll_each' h2)
theorem call_sorted (hcalm : X.calm = true) (hu : X.A.units + 65 < cLine) : CallR X (.builtin "sorted") (rSorted (XK X)) := by
  intro pins s σ H xs us Q I r q
  obtain ⟨a, xs, bs, rfl, hq, ex, hdp, hal, hso, hdep, q⟩ := q
  obtain ⟨u, rfl, rx⟩ := vals1 r
  cases rx
  have hz := Sq.len I hq
  refine Calls.call_function_entry PyProof.Rows.kind_sorted PyProof.Rows.plain_sorted PyProof.Rows.entry_sorted (PyProof.Rows.args_sorted1 _) ?_
  unfold Builtin.«sorted»
  refine wpAny_bind (m := checkCount "sorted" 1 1 _) (wpAny_pure ?_)
  refine wpAny_bind (collect_sq (A := X.A.in1) (I.ok.hd hcalm) I hq fun h' tk out hk rv => ?_)
  have I1 : Inv X pins σ H { s with heap := h', toks := tk } := I.kept hk
  have hlo : out.length = bs.length := by rw [← rv.length, ex, List.length_map]
  have hL : out.length ≤ sizeLine := by rw [← rv.length]; exact hz
  refine wpAny_bind (wpAny_newList ?_ hL)
  have hoL : (h'.push (seqObj "list" out.toArray 0)).get? h'.objs.size = some (seqObj "list" out.toArray 0) := Heap.get?_push_size _ rfl
  show wpAny _ _ _ _ _ { s with heap := h'.push (seqObj "list" out.toArray 0), toks := tk }
  obtain ⟨as, hreads⟩ := Dp.readsAll I1 _ _ _ hdp rv
  have er : PySem.W.EachIs (fun v (b : V × DL.D × PyData) => ∃ as, Reads (PySem.W.sortingHeap (h'.push (seqObj "list" out.toArray 0)) h'.objs.size out) v b.2.2 as) out bs :=
    (readsAll_each' hreads).mono fun _ _ ⟨as, z⟩ => ⟨as, PyProof.Rows.Reads.keeps (fun b o e => PySem.W.sortingHeap_old (Nat.ne_of_lt (Heap.lt_size e)) (Heap.get?_push_of_some _ e)) z⟩
  have e1 : PySem.W.EachIs (fun v (b : V × DL.D × PyData) => RelV b.1 v) out bs := fst_vals (by rw [← ex]; exact rv)
  have S := PySem.W.SortsAt.data (prog := X.prog) (w := X.w) (A := X.A.in1.in1) (s := { s with heap := PySem.W.sortingHeap (h'.push (seqObj "list" out.toArray 0)) h'.objs.size out, toks := tk }) (PySem.W.each_map (R := fun v d => ∃ as, Reads (PySem.W.sortingHeap (h'.push (seqObj "list" out.toArray 0)) h'.objs.size out) v d as) (fun b : V × DL.D × PyData => b.2.2) er) hal hso (PySem.W.bound_map fun b hb => by
    have := hdep b hb
    show X.A.units + 1 + 1 + _ < _
    omega)
  refine wpAny_bind (wpAny_holding (wpAny_call_entry PyProof.Rows.slot_list_sort ⟨_, hoL, rfl⟩ PyProof.Rows.entry_list_sort
    (PySem.W.list_sort_vals (s := { s with heap := h'.push (seqObj "list" out.toArray 0), toks := tk }) hoL S hL ⟨_, rfl, ?_⟩)
    (PyProof.Rows.args_list_sort _)))
  have e2 := PySem.W.sortVals_data false e1 er hal
  have hv := vals_fst e2
  have hlen : ((bs.mergeSort (PySem.W.dataLe false fun b => b.2.2)).map (·.1)).length ≤ sizeLine := by
    rw [List.length_map, List.length_mergeSort, ← hlo]; exact hL
  obtain ⟨e', he'⟩ := PyProof.Rows.sortedHeap_at (vs := out) (out := (PySem.W.sortVals (PySem.W.dataKind (PySem.W.sortingHeap (h'.push (seqObj "list" out.toArray 0)) h'.objs.size out) (bs.map fun b => b.2.2)) false out out).toArray) hoL
  refine wpAny_pure ⟨_, rfl, .ref h'.objs.size, _, I1.laid (t' := tk) (fun b u e => ?_) (Nat.le_refl _)
    (show ObjOk X.prog X.w _ _ _ (.lst ((bs.mergeSort (PySem.W.dataLe false fun b => b.2.2)).map (·.1))) from ⟨hlen, _, e', hv, he'⟩), rfl, q _ (I1.hok.fresh (Nat.le_refl _))⟩
  have hb : b < h'.objs.size := Heap.lt_size e
  rw [PyProof.Rows.sortedHeap_old (Nat.ne_of_lt hb) (by rw [size_push']; exact Nat.lt_succ_of_lt hb)]
  exact Heap.get?_push_of_some _ e
end
end
end DL
namespace DL
open PySem PySem.Spec PyProof.Rows L2
section
variable {S : SC} {W : Wd} {σ : L2.St}
theorem post_new {md : Bool} {ds : List DL.D} {vs : List V} {Q : VK} (k : Ok S.K W) (r : RpA S.K W vs ds) (h : Post S W σ (finD md ds W.M) (PV S Q)) : ∀ p, W.H p = none → Q (.ref p) (upd W.H p (.lst vs)) := by
  cases md with
  | false => exact post_lay k r h
  | true => exact post_grow k r h
/-- the items of a value -/
def seqK (M : Mem) (d : DL.D) : Option (List DL.D) := match res M d with
  | .tup l => some l
  | .lst l => some l
  | .dct _ l => some (l.map (·.1))
  | _ => none
theorem rpk_keys {K : KP} {W : Wd} : ∀ {kvs : List (Key × V)} {ds : List (DL.D × DL.D)}, RpK K W kvs ds → RpA K W (kvs.map fun kv => kV kv.1) (ds.map (·.1))
  | _, _, .nil => .nil
  | _, _, .cons _ t => .cons (rp_kD _) (rpk_keys t)
theorem rpt_keys {K : KP} {W : Wd} : ∀ {xs : TE3} {kvs : List (List Key × V)} {ds : List (DL.D × DL.D)}, KS K.K W.H xs kvs → RpT K W kvs ds → RpA K W (xs.map fun e => .ref e.2.1) (ds.map (·.1))
  | _, _, _, .nil, .nil => .nil
  | _, _, _, .cons hs _ t, .cons _ u => .cons (.tup hs (rpa_kD _)) (rpt_keys t u)
theorem seqK_run {K : KP} {v : V} {d : DL.D} {l : List DL.D} (k : Ok K W) (r : Rp K W v d) (h : seqK W.M d = some l) : ∃ a xs, v = .ref a ∧ Sq K W.H a xs ∧ RpA K W xs l := by
  unfold seqK at h
  split at h
  · rename_i ds e
    cases h
    obtain ⟨p, xs, rfl, s1, r1⟩ := res_tup r e
    exact ⟨p, xs, rfl, .inr (.inl s1), r1⟩
  · rename_i ds e
    cases h
    obtain ⟨p, xs, rfl, s1, r1⟩ := rd_lst k r e
    exact ⟨p, xs, rfl, .inl s1, r1⟩
  · rename_i t ds e
    cases h
    have hb : dctB W.M d = some (t, ds) := by unfold dctB; rw [e]
    obtain ⟨a, rfl, h⟩ := dct_run k r hb
    rcases h with ⟨rfl, kvs, h1, h2⟩ | ⟨rfl, xs, kvs, h1, h2, h3⟩
    · exact ⟨a, _, rfl, .inr (.inr (.inl ⟨kvs, h1, rfl⟩)), rpk_keys h2⟩
    · exact ⟨a, _, rfl, .inr (.inr (.inr ⟨xs, h1, rfl⟩)), rpt_keys h2 h3⟩
  · cases h
def enc (d : DL.D) : PyData := (py d).getD .none
theorem pyL_enc : ∀ {l : List DL.D} {ps : List PyData}, pyL l = some ps → ps = l.map enc
  | [], _, h => by cases h; rfl
  | d :: r, ps, h => by
    rw [pyL] at h
    cases e : py d with
    | none => rw [e] at h; cases h
    | some p =>
      cases e2 : pyL r with
      | none => rw [e, e2] at h; cases h
      | some ps' =>
        rw [e, e2] at h; cases h
        rw [pyL_enc e2, List.map_cons]
        congr 1
        unfold enc; rw [e]; rfl
def alikeB (ps : List PyData) : Bool := ps.all fun d => ps.all fun d' => PySem.W.alike d d'
def sortB (ps : List PyData) : Bool := (ps.all fun d => match d with | .tuple (_ :: _) => true | _ => false) || ps.all fun d => match d with | .none => false | .tuple _ => false | _ => true
theorem alikeB_run {ps : List PyData} (h : alikeB ps = true) : PySem.W.AllAlike ps := fun d hd d' hd' => List.all_eq_true.mp (List.all_eq_true.mp h d hd) d' hd'
theorem sortB_run {ps : List PyData} (h : sortB ps = true) : PySem.W.Sortable ps := by
  unfold sortB at h
  rw [Bool.or_eq_true] at h
  rcases h with h | h
  · refine .inl fun d hd => ?_
    have := List.all_eq_true.mp h d hd
    split at this
    · exact ⟨_, _, rfl⟩
    · cases this
  · refine .inr fun d hd => ?_
    have := List.all_eq_true.mp h d hd
    split at this
    · cases this
    · cases this
    · rename_i h1 h2
      exact ⟨h1, h2⟩
def sortOk (l : List DL.D) : Bool := (pyL l).isSome && alikeB (l.map enc) && sortB (l.map enc) && l.all fun d => decide ((enc d).depth ≤ 60)
def sortL (l : List DL.D) : List DL.D := l.mergeSort (PySem.W.dataLe false enc)
def sortedD (md : Bool) (d : DL.D) : Mo DL.D := fun M => match seqK M d with
  | some l => cond (sortOk l) (finD md (sortL l) M) none
  | none => none
def trip (xs : List V) (l : List DL.D) : List (V × DL.D × PyData) := (xs.zip l).map fun p => (p.1, p.2, enc p.2)
theorem trip_1 {xs : List V} {l : List DL.D} (h : xs.length = l.length) : (trip xs l).map (·.1) = xs := by
  unfold trip
  rw [List.map_map]
  exact List.map_fst_zip (by omega)
theorem trip_2 {xs : List V} {l : List DL.D} (h : xs.length = l.length) : (trip xs l).map (·.2.1) = l := by
  unfold trip
  rw [List.map_map]
  exact List.map_snd_zip (by omega)
theorem trip_3 {xs : List V} {l : List DL.D} (h : xs.length = l.length) : (trip xs l).map (·.2.2) = l.map enc := by
  unfold trip
  rw [List.map_map]
  have : ((fun x : V × DL.D × PyData => x.2.2) ∘ fun p : V × DL.D => (p.1, p.2, enc p.2)) = enc ∘ Prod.snd := rfl
  rw [this, ← List.map_map, List.map_snd_zip (by omega)]
theorem trip_mem {xs : List V} {l : List DL.D} {b : V × DL.D × PyData} (h : b ∈ trip xs l) : b.2.2 = enc b.2.1 ∧ (b.1, b.2.1) ∈ xs.zip l := by
  unfold trip at h
  obtain ⟨p, hp, rfl⟩ := List.mem_map.mp h
  exact ⟨rfl, hp⟩
theorem rpa_zip {K : KP} : ∀ {xs : List V} {l : List DL.D}, RpA K W xs l → ∀ p ∈ xs.zip l, Rp K W p.1 p.2
  | _, _, .nil, p, h => by simp at h
  | _, _, .cons r t, p, h => by
    rw [List.zip_cons_cons] at h
    rcases List.mem_cons.mp h with rfl | h
    · exact r
    · exact rpa_zip t p h
theorem rpa_of {K : KP} : ∀ {bs : List (V × DL.D × PyData)}, (∀ b ∈ bs, Rp K W b.1 b.2.1) → RpA K W (bs.map (·.1)) (bs.map (·.2.1))
  | [], _ => .nil
  | b :: bs, h => .cons (h b List.mem_cons_self) (rpa_of fun c hc => h c (List.mem_cons_of_mem _ hc))
theorem sorted_run {K : KP} {xs : List V} {l : List DL.D} (r : RpA K W xs l) : RpA K W (((trip xs l).mergeSort (PySem.W.dataLe false fun b => b.2.2)).map (·.1)) (sortL l) := by
  have hl := r.length
  have e : sortL l = ((trip xs l).mergeSort (PySem.W.dataLe false fun b => b.2.2)).map (·.2.1) := by
    unfold sortL
    rw [List.map_mergeSort (s := PySem.W.dataLe false enc) (f := fun b : V × DL.D × PyData => b.2.1), trip_2 hl]
    intro a ha b hb
    rw [PySem.W.dataLe_eq, PySem.W.dataLe_eq]
    simp only
    rw [(trip_mem ha).1, (trip_mem hb).1]
  rw [e]
  exact rpa_of fun b hb => rpa_zip r _ (trip_mem (List.mem_mergeSort.mp hb)).2
theorem cx_sorted (md : Bool) : CXx S (.builtin "sorted") (arg1 (sortedD md)) := by
  refine ⟨⟨rSorted S.K, fun X c => by have z := call_sorted c.calm (hu_of' c); unfold XK at z; rw [c.P, c.w, c.K] at z; exact z, fun W σ vs ds Q k r h => ?_⟩⟩
  obtain ⟨v, d, rfl, rv, h⟩ := arg1_run r h
  have h : Post S W σ (sortedD md d W.M) (PV S Q) := h
  unfold sortedD at h
  cases hs : seqK W.M d with
  | none => rw [hs] at h; exact h.elim
  | some l =>
    simp only [hs] at h
    obtain ⟨ho, h⟩ := post_condO h
    unfold sortOk at ho
    simp only [Bool.and_eq_true] at ho
    obtain ⟨⟨⟨o1, o2⟩, o3⟩, o4⟩ := ho
    obtain ⟨a, xs, rfl, sq, r1⟩ := seqK_run k rv hs
    have hl := r1.length
    obtain ⟨ps, hps⟩ := Option.isSome_iff_exists.mp o1
    refine ⟨a, xs, trip xs l, rfl, sq, (trip_1 hl).symm, ?_, ?_, ?_, fun b hb => ?_, post_new k (sorted_run r1) h⟩
    · rw [trip_3 hl, ← pyL_enc hps]; exact rpa_dp r1 hps
    · rw [trip_3 hl]; exact alikeB_run o2
    · rw [trip_3 hl]; exact sortB_run o3
    · rw [(trip_mem hb).1]
      have hm : b.2.1 ∈ l := (List.of_mem_zip (trip_mem hb).2).2
      simpa using List.all_eq_true.mp o4 _ hm
def lrevD (md : Bool) (d : DL.D) : Mo DL.D := fun M => match res M d with
  | .lst l => finD md l.reverse M
  | _ => none
theorem ex_lrev (md : Bool) {e : Expr} {f : En → Mo DL.D} {p p2 pos pos2 : Pos} (hg : Gs S "list") (hm : S.mg "list" = none) (hg2 : Gs S "reversed") (hm2 : S.mg "reversed" = none) (he : EX S e f)
    (hs : ∀ env : PySem.Env, starEach [e] env = (false, eval e env) :: starEach [] env := by intro; rfl)
    (hs2 : ∀ env : PySem.Env, starEach [.Call (.Name "reversed" p2) [e] [] pos2] env = (false, eval (.Call (.Name "reversed" p2) [e] [] pos2) env) :: starEach [] env := by intro; rfl) :
    EX S (.Call (.Name "list" p) [.Call (.Name "reversed" p2) [e] [] pos2] [] pos) (fun ρ => .bnd (f ρ) (lrevD md)) := by
  obtain ⟨te, e1, e2⟩ := he.ex
  refine ⟨tLstRev S.F te, fun X c => by have z := pe_lstRev (p := p) (p2 := p2) (pos := pos) (pos2 := pos2) c.calm (gl_of c hg) (by rw [c.mg]; exact hm) (gl_of c hg2) (by rw [c.mg]; exact hm2) (e1 X c) (hs X.env) (hs2 X.env); rw [c.K] at z; exact z, fun W σ ρ Q k st h => ?_⟩
  refine e2 W σ ρ _ k st (Post.imp (Post.bnd h) fun d W1 l1 k1 q v rv => ?_)
  have q : Post S W1 σ (lrevD md d W1.M) (PV S Q) := q
  unfold lrevD at q
  split at q
  · rename_i l e
    obtain ⟨a, xs, rfl, s1, r1⟩ := rd_lst k1 rv e
    exact ⟨a, xs, rfl, s1, post_new k1 r1.reverse q⟩
  · exact q.elim
theorem call_listA {X : Cx} (hcalm : X.calm = true) : CallR X (.type "list") (fun vs H Q => ∃ (a : Addr) (xs : List V), vs = [.ref a] ∧ Sq (XK X) H a xs ∧ ∀ p, H p = none → Q (.ref p) (upd H p (.lst xs))) := by
  intro pins s σ H vs us Q I r h
  obtain ⟨a, xs, rfl, hq, q⟩ := h
  rcases hq with hq | hq | ⟨kvs, hq, rfl⟩ | ⟨es, hq, rfl⟩
  · exact call_list_of pins s σ H _ us Q I r ⟨a, xs, rfl, .inl hq, q⟩
  · exact call_list_of pins s σ H _ us Q I r ⟨a, xs, rfl, .inr hq, q⟩
  · exact call_listD hcalm pins s σ H _ us Q I r ⟨a, kvs, rfl, hq, q⟩
  · obtain ⟨u, rfl, rx⟩ := r.one
    cases rx
    obtain ⟨z, lo, o, es', ep, h1, h2, h3, h4, h5⟩ := td_at I hq
    have hl : es'.size = es.length := by
      have := congrArg List.length h4
      simpa using this
    refine PySem.W.kdl_call (kdl_raw lo h2 h3) (I.ok.hd hcalm) h1 (by omega) fun h' tk acc' c' kp e it => ?_
    refine ⟨.ref s.heap.objs.size, _, I.laid (t' := tk) (o := .lst (es.map fun x => V.ref x.2.1)) kp (Nat.le_refl _) ⟨by rw [List.length_map]; exact z, acc'.toList, c', vals_raw h4 it, by rw [Array.toArray_toList]; exact e⟩, rfl, q _ (I.hok.fresh (Nat.le_refl _))⟩
def listA (md : Bool) (d : DL.D) : Mo DL.D := fun M => match seqK M d with
  | some l => finD md l M
  | none => none
theorem cx_listA (md : Bool) : CXx S (.type "list") (arg1 (listA md)) := by
  refine ⟨⟨_, fun X c => by have z := call_listA (X := X) c.calm; unfold XK at z; rw [c.P, c.w, c.K] at z; exact z, fun W σ vs ds Q k r h => ?_⟩⟩
  obtain ⟨v, d, rfl, rv, h⟩ := arg1_run r h
  have h : Post S W σ (listA md d W.M) (PV S Q) := h
  unfold listA at h
  cases hs : seqK W.M d with
  | none => rw [hs] at h; exact h.elim
  | some l =>
    simp only [hs] at h
    obtain ⟨a, xs, rfl, sq, r1⟩ := seqK_run k rv hs
    exact ⟨a, xs, rfl, sq, post_new k r1 h⟩
end
end DL
namespace DL
open PySem PySem.Spec PyProof.Rows L2
abbrev genX (X : Cx) (A : Around) (s : Shared) (H : Hp) (cenv : PySem.Env) (fp : List Addr) : Cx := { X with A := A, s_0 := s, H_0 := H, env := cenv, outer := X.stack, stack := cenv :: X.stack, ex := fp, fn := fun _ => false, pn := [], xe := fun _ _ => False }
section
variable {X : Cx} {pins : List (Addr × Obj)} {σ : L2.St} {H : Hp} {s : Shared}
theorem setGen_bare {s : Shared} {g : Nat} {x : GenState} (h : AllBare s.gens) (hx : x.bare = true) : AllBare (s.setGen g x).gens := fun y hy => by
  have hy : y ∈ s.gens.setIfInBounds g x := hy
  rcases Array.mem_or_eq_of_mem_setIfInBounds hy with h1 | h1
  · exact h y h1
  · rw [h1]; exact hx
theorem Inv_setGen {g : Nat} {x : GenState} (I : Inv X pins σ H s) (hx : x.bare = true) : Inv X pins σ H (s.setGen g x) :=
  ⟨I.ok, I.os, setGen_bare I.bare hx, I.base, I.loc, I.cell, I.free, I.freeC, I.pin, I.hok, I.len⟩
/-- the state in which a generator expression's code begins -/
theorem gen_start {scope : Scope} {own : List (Str × Nat)} {fp : List Addr} {A' : Around} {code it : Value} {bi : Addr} {h' : Heap} {go : Obj} {gs : GenState} {tk : Nat} (I : Inv X pins σ H s) (ok : BlkOk X.N X.env.scope scope own) (hN : X.N.Nodup) (hcell : ∀ y ∈ scope.names, y.2 ≠ .cell) (hfp : ∀ b ∈ fp, FpOk X pins H b ∧ b < s.heap.objs.size)
    (hh : A'.handled = none) (hf : A'.frames = some (genEnv scope (cloFrom X.env.cells scope.names []) s.heap.objs.size code bi X.env :: X.stack)) (hbi : bi = builtinsNs)
    (hn' : h'.Ns s.heap.objs.size (fun y => if y = ".0" then some it else none)) (hs' : Heap.SameBut s.heap.objs.size (s.heap.push { cls := .type "frame", data := .dict #[] }) h') (hgo : ∀ v, go.data ≠ .cell v) (hgf : go.isFreed = false) (hgs : gs.bare = true) :
    Inv (genX X A' s H (genEnv scope (cloFrom X.env.cells scope.names []) s.heap.objs.size code bi X.env) fp) [(h'.objs.size, go)] (wipe σ (own.map (·.2))) H { s with gens := s.gens.push gs, toks := tk, heap := h'.push go } := by
  have hfree : ∀ y ∈ scope.names, y.2 = .free → ∃ c, X.env.cells.lookup y.1 = some c := fun y hy e => by
    rcases ok.free y hy e with k | k
    · exact I.ok.has _ (.inl k)
    · exact I.ok.has _ (.inr k)
  have hsz : h'.objs.size = s.heap.objs.size + 1 := by rw [hs'.1, Heap.size_push]
  have kp : ∀ b o, s.heap.get? b = some o → (h'.push go).get? b = some o := fun b o e => Heap.get?_push_of_some _ (hs'.extBut b o (Nat.ne_of_lt (Heap.lt_size e)) (Heap.get?_push_of_some _ e))
  generalize hcenv : genEnv scope (cloFrom X.env.cells scope.names []) s.heap.objs.size code bi X.env = cenv at hf ⊢
  have hL : cenv.locals = s.heap.objs.size := by rw [← hcenv]; rfl
  have hcl : cenv.cells = cloFrom X.env.cells scope.names [] := by rw [← hcenv]; rfl
  have hsc : cenv.scope = scope := by rw [← hcenv]; rfl
  have cm : ∀ {y c}, (y, c) ∈ cloFrom X.env.cells scope.names [] → X.env.cells.lookup y = some c ∧ c < s.heap.objs.size := fun {y c} hm => by
    rcases cloFrom_mem hm with hm | ⟨h1, rfl⟩
    · cases hm
    · obtain ⟨c, hc⟩ := hfree _ h1 rfl
      rw [hc]
      obtain ⟨w, z⟩ := I.cell _ _ hc
      exact ⟨rfl, z.lt⟩
  have mem : ∀ {y c}, cenv.cells.lookup y = some c → X.env.cells.lookup y = some c ∧ c < s.heap.objs.size := fun {y c} e => by
    rw [hcl] at e
    exact cm (PySem.mem_of_lookup e)
  have look : ∀ {y}, scope.names.lookup y = some .free → ∃ c, cenv.cells.lookup y = some c ∧ X.env.cells.lookup y = some c := fun {y} hl => by
    have hy : (y, NameKind.free) ∈ scope.names := PySem.mem_of_lookup hl
    obtain ⟨c', e'⟩ := mem_lookup (cloFrom_has (cells := X.env.cells) (acc := []) hy)
    rw [← hcl] at e'
    exact ⟨c', e', (mem e').1⟩
  have okB : (genX X A' s H cenv fp).Ok := by
    refine ⟨I.ok.mod, by show cenv.scope.kind = _; rw [hsc]; exact ok.kind, by show cenv.globals = _; rw [← hcenv]; exact I.ok.glob, by show cenv.builtins = _; rw [← hcenv]; exact hbi, by show s.heap.objs.size ≤ cenv.locals; rw [hL]; exact Nat.le_refl _,
      fun y z c e1 e2 => I.ok.inj y z c (mem e1).1 (mem e2).1, fun y hy => ?_, (fun y c z e => by cases z), fun _ => hh, hf, .inr ⟨rfl, (by show cenv.frame = some cenv.locals; rw [← hcenv]; rfl)⟩, fun b hb => ⟨?_, fun y c e z => ?_⟩, I.bs, Nat.le_trans I.ok.bsz I.sz, fun b o e hb => ?_, fun b hb z => ?_, I.stack, I.stkFree⟩
    · have hy : cenv.scope.names.lookup y = some .cell ∨ cenv.scope.names.lookup y = some .free := hy
      rw [hsc] at hy
      rcases hy with hy | hy
      · exact absurd rfl (hcell _ (PySem.mem_of_lookup hy))
      · obtain ⟨c, h1, _⟩ := look hy
        exact ⟨c, h1⟩
    · show b ≠ cenv.locals
      rw [hL]; exact Nat.ne_of_lt (hfp b hb).2
    · exact (hfp b hb).1.2.2.2.2.1 y c (mem e).1 z
    · rcases (hfp b hb).1.2.2.2.1 with z | z
      · exact I.ok.noex b o e z
      · exact absurd (Nat.lt_of_lt_of_le (Heap.lt_size e) (Nat.le_trans I.ok.bsz z)) (Nat.lt_irrefl _)
    · rcases List.mem_cons.mp (I.stkSub b z) with z | z
      · exact (hfp b hb).1.2.1 z
      · exact (hfp b hb).1.2.2.1 z
  refine ⟨okB, rfl, I.bare.push hgs, Un.kept kp, ⟨fun y => if y = ".0" then some it else none, ?_, fun i y av e1 e2 e3 => ?_⟩, fun y c e => ?_, ?_, fun y c e => I.freeC y c (mem e).1, fun p hp => ?_, I.hok.kept kp, by rw [wipe_length]; exact I.len⟩
  · show Heap.Ns _ cenv.locals _
    rw [hL]
    exact hn'.push _
  · obtain ⟨e2, hne⟩ := wipe_some e2
    have hfr : scope.names.lookup y = some .free := by
      have e3 : Vis cenv.scope y := e3
      unfold Vis at e3
      rw [hsc] at e3
      have no : ∀ k, scope.names.lookup y = some k → ¬ (k = .local ∨ k = .cell) := fun k e hh => by
        rcases ok.own _ (PySem.mem_of_lookup e) hh with e' | e'
        · obtain ⟨p, hp, hpy⟩ := List.mem_map.mp e'
          have e3 := ok.ix p hp
          have : p.1 = y := hpy
          rw [this] at e3
          exact hne (List.mem_map.mpr ⟨p, hp, nodup_ix hN e3 e1⟩)
        · exact e' (List.mem_of_getElem? e1)
      rcases e3 with e3 | e3 | e3
      · exact absurd (.inl rfl) (no _ e3)
      · exact absurd (.inr rfl) (no _ e3)
      · exact e3
    obtain ⟨m, hn, hl⟩ := I.loc
    have hvis : Vis X.env.scope y := (ok.free _ (PySem.mem_of_lookup hfr) rfl).elim (fun k => .inr (.inl k)) (fun k => .inr (.inr k))
    obtain ⟨w, r, q⟩ := hl i y av e1 e2 hvis
    refine ⟨w, r, .inr ⟨.inr (by show cenv.scope.names.lookup y = _; rw [hsc]; exact hfr), ?_⟩⟩
    obtain ⟨c, h1, h2⟩ := look hfr
    rcases q with ⟨k, _⟩ | ⟨_, c', e', z⟩
    · have k : X.env.scope.names.lookup y = some .local := k
      rcases ok.free _ (PySem.mem_of_lookup hfr) rfl with k' | k' <;> rw [show X.env.scope.names.lookup y = _ from k'] at k <;> cases k
    · rw [h2] at e'; cases e'
      exact ⟨c, h1, z.keeps kp⟩
  · obtain ⟨w, z⟩ := I.cell y c (mem e).1
    exact ⟨w, z.keeps kp⟩
  · show H cenv.locals = none
    rw [hL]; exact I.hok.fresh (Nat.le_refl _)
  · have hp : p ∈ [(h'.objs.size, go)] := hp
    rw [List.mem_singleton.mp hp]
    refine ⟨Heap.get?_push_size _ hgf, I.hok.fresh (by show s.heap.objs.size ≤ h'.objs.size; omega), ?_, fun hb => ?_, hgo⟩
    · show h'.objs.size ≠ cenv.locals
      rw [hL, hsz]; exact Nat.succ_ne_self _
    · obtain ⟨_, o, ho, _⟩ := I.stack.mem hb
      have h1 : h'.objs.size < s.heap.objs.size := Heap.lt_size ho
      omega
end

section
variable {X : Cx}
/-- the state between two turns: σ, the iterator's place, the generator's own object -/
def GSt (X' : Cx) (a : Addr) (go : Obj) (fp : List Addr) (tn : Nat → Heap → Prop) (σw : L2.St) (i : Nat) (H : Hp) (s : Shared) : Prop := Inv X' [(a, go)] σw H s ∧ tn i s.heap ∧ ∀ b ∈ fp, H b = none
def GFin (X' : Cx) (a : Addr) (go : Obj) (σw : L2.St) (H : Hp) (s : Shared) : Prop := Inv X' [(a, go)] σw H s
def YG (X' : Cx) (a : Addr) (go : Obj) (fp : List Addr) (tn : Nat → Heap → Prop) (σw : L2.St) (al : Bool) (Wv : Nat → Nat → Hp → Prop) (Qs : Hp → Prop) : Protocol := fun n _ v s kap =>
  ∃ c, v = .bool c ∧ ((c = al ∧ ∃ i m H, m < n ∧ Wv i m H ∧ GSt X' a go fp tn σw i H s ∧ ∀ s'', GSt X' a go fp tn σw i H s'' → kap (.send .none) s'') ∨ (c = !al ∧ ∃ H, GFin X' a go σw H s ∧ Qs H))
def RG (X' : Cx) (a : Addr) (go : Obj) (σw : L2.St) (Qe : Hp → Prop) : GenEnd := fun _ _ r s => r = .ok .next ∧ ∃ H, GFin X' a go σw H s ∧ Qe H
theorem seg_gl {X' : Cx} {A0 : Around} {a it : Addr} {go : Obj} {fp : List Addr} {tn : Nat → Heap → Prop} {σw : L2.St} {al : Bool} {Wv : Nat → Nat → Hp → Prop} {Qs Qe : Hp → Prop} {J : It} {elt tg iter : Expr} {ifs : List Expr} {scope : Scope} {pos : Pos} {g : TG} {tt : TT} {te : TE} {vs : List Nat}
    (hA : A0.over (.compLoop (.GeneratorExp elt [⟨tg, iter, ifs, 0⟩] scope pos) 0 (.ref it) .none X'.env) [] = X'.A) (hco : X'.env.scope.isCoroutine = false) (hc : X'.calm = true) (hpn : X'.pn = []) (hxe : X'.xe = fun _ _ => False) (hex : X'.ex = fp) (hafp : a ∉ fp)
    (T : Turn X'.prog X'.w X'.K tg J fp it tn) (pg : PG X' tg g) (pt : PTs X' ifs tt) (pe : PE X' elt te)
    (turn : ∀ i m H, Wv i m H → (J.stop i H ∧ Qe H) ∨ (J.go i H ∧ ∃ Nx : Hp → Prop, (∀ H', Nx H' → ∃ m', m' < m ∧ Wv (i + 1) m' H') ∧ ∀ x H', J.yld i H x H' → g x σw H' fun σ2 H2 => wipe σ2 vs = σw ∧ tt σ2 H2 fun b H3 =>
      if b = true then te σ2 H3 fun y H4 => ∃ c, y = .bl c ∧ ((c = al ∧ Nx H4) ∨ (c = !al ∧ Qs H4)) else Nx H3)) :
    ∀ (m n i : Nat) (H : Hp) (s₀ s : Shared), m < n → Wv i m H → GSt X' a go fp tn σw i H s →
      Seg (model X'.prog X'.w) A0 (RG X' a go σw Qe) (YG X' a go fp tn σw al Wv Qs) n s₀ (.compLoop (.GeneratorExp elt [⟨tg, iter, ifs, 0⟩] scope pos) 0 (.ref it) .none X'.env)
        ((model X'.prog X'.w).den (.compLoop (.GeneratorExp elt [⟨tg, iter, ifs, 0⟩] scope pos) 0 (.ref it) .none X'.env)) [] s := by
  have stat : ∀ {ps : List (Addr × Obj)} {σ' : L2.St} {H' : Hp} {s' : Shared}, Inv X' ps σ' H' s' → (∀ b ∈ fp, H' b = none) → (∀ p ∈ ps, p.1 ∉ fp) → ∀ b ∈ fp, FpOk X' ps H' b := fun {ps σ' H' s'} I' hn hps b hb =>
    ⟨hn b hb, (I'.ok.exf b (hex ▸ hb)).1, I'.ok.exfs b (hex ▸ hb), .inl (hex ▸ hb), fun x c e => (I'.ok.exf b (hex ▸ hb)).2 x c e, fun p hp => by
      rw [hpn] at hp
      exact fun e => hps p hp (e ▸ hb)⟩
  have hps : ∀ p ∈ [(a, go)], p.1 ∉ fp := fun p hp => by rw [List.mem_singleton.mp hp]; exact hafp
  intro m
  induction m using Nat.strongRecOn with
  | ind m ih =>
    intro n i H s₀ s hmn w hst
    obtain ⟨I, st, nf⟩ := hst
    show Seg _ A0 _ _ _ s₀ _ ((compTurn (.GeneratorExp elt [⟨tg, iter, ifs, 0⟩] scope pos) 0 (.ref it) .none X'.env).onRaise (leaving X'.env)) [] s
    rw [compTurn_gen, Sem.onRaise_eq_wrap]
    refine seg_bind_wrap (wpAny_standAt ?_)
    rcases turn i m H w with ⟨stop, qq⟩ | ⟨go', Nx, hNx, step⟩
    · have td := T.done X' rfl rfl rfl hc i _ s _ H (fun _ _ => False) I (stat I nf hps) st stop
      refine seg_bind_wrap ?_
      rw [hA]
      refine thnF td fun r s6 ⟨hr, I6⟩ => ?_
      subst hr
      exact seg_end (.ok .next) ⟨rfl, H, I6, qq⟩
    · have ti := T.item X' rfl rfl rfl hc i _ s _ H (fun _ _ => False) I (stat I nf hps) st go'
      refine seg_bind_wrap ?_
      rw [hA]
      refine thnF ti fun r s6 ⟨u, hr, h6⟩ => ?_
      subst hr
      refine seg_bind_wrap ?_
      rw [hA]
      refine thnF h6 fun _ s7 ⟨x, H7, I7, r7, y7, st7, n7⟩ => ?_
      have I7' := I7.pinned (stat I7 n7 hps) (T.obj _ _ st7)
      refine seg_bind_wrap ?_
      rw [hA]
      refine wpAny_mono (pg.run _ s7 _ H7 x u _ I7' r7 (step x H7 y7)) (fun _ s8 ⟨σ8, H8, I8, hw8, q8⟩ => ?_) fun _ _ z => by rw [hxe] at z; exact z.elim
      refine seg_bind_wrap ?_
      rw [hA]
      refine wpAny_mono (pt.run _ s8 σ8 H8 _ I8 q8) (fun b s9 ⟨H9, I9, q9⟩ => ?_) fun _ _ z => by rw [hxe] at z; exact z.elim
      have fin : ∀ {s' : Shared} {H' : Hp}, Inv X' ([(a, go)] ++ pinsAt fp s7.heap) σ8 H' s' → GSt X' a go fp tn σw (i + 1) H' s' := fun {s' H'} I' => by
        have pin' : ∀ b ∈ fp, ∀ o, s7.heap.get? b = some o → s'.heap.get? b = some o ∧ H' b = none := fun b hb o e =>
          let z := I'.pin (b, o) (List.mem_append_right _ (List.mem_append_right _ (mem_pinsAt hb e)))
          ⟨z.1, z.2.1⟩
        have hl : σw.length = σ8.length := by rw [← hw8, wipe_length]
        refine ⟨(I'.unpinned (pins := [(a, go)])).weak hl (fun j v e => ?_), T.keep _ _ _ st7 fun b hb o e => (pin' b hb o e).1, fun b hb => ?_⟩
        · rw [← hw8] at e
          exact (wipe_some e).1
        · obtain ⟨o, e, _⟩ := T.obj _ _ st7 b hb
          exact (pin' b hb o e).2
      cases b with
      | false =>
        simp only [Bool.false_eq_true, if_false] at q9 ⊢
        obtain ⟨m', hm, w'⟩ := hNx _ q9
        exact seg_again rfl (ih m' hm n (i + 1) H9 s₀ s9 (by omega) w' (fin I9))
      | true =>
        simp only [if_true] at q9 ⊢
        have hy : ∀ v, yieldOut X'.env v = yieldValue v := fun v => by simp only [yieldOut, hco, Bool.false_eq_true, if_false]
        simp only [hy]
        rw [Sem.bind_eq_wrap', Sem.bind_eq_wrap', Sem.wrap_wrap, Sem.wrap_wrap]
        refine seg_wrap ?_
        rw [hA]
        refine wpAny_mono (pe.run _ s9 σ8 H9 _ I9 q9) (fun y s10 ⟨yv, H10, I10, r10, c, ec, q10⟩ => ?_) fun _ _ z => by rw [hxe] at z; exact z.elim
        subst ec
        obtain rfl : y = Value.bool c := r10
        obtain ⟨n', rfl⟩ : ∃ n', n = n' + 1 := ⟨n - 1, by omega⟩
        refine seg_at (seg_yield rfl rfl rfl ⟨c, rfl, ?_⟩)
        rcases q10 with ⟨hcal, nx⟩ | ⟨hcal, qs⟩
        · obtain ⟨m', hm, w'⟩ := hNx _ nx
          exact .inl ⟨hcal, i + 1, m', H10, by omega, w', fin I10, fun s'' hs'' => seg_again rfl (ih m' hm n' (i + 1) H10 s'' s'' (by omega) w' hs'')⟩
        · exact .inr ⟨hcal, H10, (fin I10).1, qs⟩

theorem over_start {A0 : Around} {elt tg iter : Expr} {ifs : List Expr} {scope : Scope} {pos : Pos} {it acc : Value} {cenv : PySem.Env} :
    A0.over (.compStart (.GeneratorExp elt [⟨tg, iter, ifs, 0⟩] scope pos) 0 it acc cenv) [] = A0.over (.compLoop (.GeneratorExp elt [⟨tg, iter, ifs, 0⟩] scope pos) 0 it acc cenv) [] := rfl
theorem seg_gs {X' : Cx} {A0 : Around} {it : Addr} {tn : Nat → Heap → Prop} {J : It} {elt tg iter : Expr} {ifs : List Expr} {scope : Scope} {pos : Pos} {fp : List Addr} {R : GenEnd} {Y : Protocol} {n : Nat} {s₀ s : Shared}
    (T : Turn X'.prog X'.w X'.K tg J fp it tn) (st : tn 0 s.heap)
    (loop : Seg (model X'.prog X'.w) A0 R Y n s₀ (.compLoop (.GeneratorExp elt [⟨tg, iter, ifs, 0⟩] scope pos) 0 (.ref it) .none X'.env) ((model X'.prog X'.w).den (.compLoop (.GeneratorExp elt [⟨tg, iter, ifs, 0⟩] scope pos) 0 (.ref it) .none X'.env)) [] s) :
    Seg (model X'.prog X'.w) A0 R Y n s₀ (.compStart (.GeneratorExp elt [⟨tg, iter, ifs, 0⟩] scope pos) 0 (.ref it) .none X'.env) ((model X'.prog X'.w).den (.compStart (.GeneratorExp elt [⟨tg, iter, ifs, 0⟩] scope pos) 0 (.ref it) .none X'.env)) [] s := by
  show Seg _ A0 _ _ _ s₀ _ ((compStart (.GeneratorExp elt [⟨tg, iter, ifs, 0⟩] scope pos) 0 (.ref it) .none X'.env).onRaise (leaving X'.env)) [] s
  unfold compStart
  rw [Sem.onRaise_eq_wrap]
  show Seg _ A0 _ _ _ s₀ _ ((ask >>= _).wrap _ _ _ _) [] s
  refine seg_bind_wrap (wpAny_askSetting ?_)
  split
  · exact seg_again rfl loop
  · first
      | exact seg_bind_wrap (wpAny_rule (seg_bind_wrap (wpAny_standAt (seg_bind_wrap (T.self _ 0 s _ _ st (seg_again rfl loop))))))
      | (refine seg_bind_wrap (wpAny_rule ?_); show Seg _ A0 _ _ _ s₀ _ ((standAt iter.pos >>= _).wrap _ _ _ _) [] s; exact seg_bind_wrap (wpAny_standAt (seg_bind_wrap (T.self _ 0 s _ _ st (seg_again rfl loop)))))

theorem gst_set {X' : Cx} {a : Addr} {go : Obj} {fp : List Addr} {tn : Nat → Heap → Prop} {σw : L2.St} {i g : Nat} {H : Hp} {s : Shared} {x : GenState} (h : GSt X' a go fp tn σw i H s) (hx : x.bare = true) : GSt X' a go fp tn σw i H (s.setGen g x) := ⟨Inv_setGen h.1 hx, h.2⟩
abbrev genObj (g : Nat) (n q : Value) : Obj := { cls := .type "generator", data := .fields #[.int g 0, n, q] }
/-- which loop -/
def loopId (al : Bool) : String := cond al "all.loop" "any.loop"
theorem loop_run {X' : Cx} {A : Around} {a : Addr} {g : Nat} {go : Obj} {fp : List Addr} {tn : Nat → Heap → Prop} {σw : L2.St} {al : Bool} {Wv : Nat → Nat → Hp → Prop} {Qs Qe : Hp → Prop} {RR : Result → Shared → Prop}
    (hh : A.handled = none) (hroom : A.depth < recursionLimit) (hgo : ∀ h : Heap, h.get? a = some go → h.IsGen a g)
    (hs : ∀ H s, GFin X' a go σw H s → Qs H → RR (.ok (.ret (.bool (!al)))) s) (he : ∀ H s, GFin X' a go σw H s → Qe H → RR (.ok (.ret (.bool al))) s) :
    ∀ (n m i : Nat) (H : Hp) (s : Shared) (gs : GenState), m < n → Wv i m H → GSt X' a go fp tn σw i H s → s.gens[g]? = some gs →
      (∀ s'', GSt X' a go fp tn σw i H s'' → gs.Goes (model X'.prog X'.w) A.in1.in1 (RG X' a go σw Qe) (YG X' a go fp tn σw al Wv Qs) n (.send .none) s'') →
      codeAny (model X'.prog X'.w) A (.builtin (loopId al) ⟨[.ref a], []⟩) RR s := by
  intro n
  induction n with
  | zero => intro m i H s gs hm; omega
  | succ n ih =>
    intro m i H s gs hmn w hst hgs hgoes
    have hl : s.heap.NoLimit := hst.1.nolimit
    have hg : s.heap.IsGen a g := hgo _ (hst.1.pin (a, go) (List.mem_append_right _ (List.mem_singleton.mpr rfl))).1
    have hlt : g < s.gens.size := by
      rcases Nat.lt_or_ge g s.gens.size with h' | h'
      · exact h'
      · rw [Array.getElem?_eq_none h'] at hgs; cases hgs
    have next : ∀ {E : Value → Shared → Prop} {Q : Option Value → Shared → Prop},
        (∀ c s₁ gs', (c = al ∧ ∃ i m H, m < n ∧ Wv i m H ∧ GSt X' a go fp tn σw i H s₁ ∧ s₁.gens[g]? = some gs' ∧ ∀ s'', GSt X' a go fp tn σw i H s'' → gs'.Goes (model X'.prog X'.w) A.in1.in1 (RG X' a go σw Qe) (YG X' a go fp tn σw al Wv Qs) n (.send .none) s'') ∨ (c = !al ∧ ∃ H, GFin X' a go σw H s₁ ∧ Qs H) → Q (some (.bool c)) s₁) →
        (∀ H s₁, GFin X' a go σw H s₁ → Qe H → Q none s₁) → wpAny (model X'.prog X'.w) A.in1 (pyNext (.ref a)) Q E s := fun {E Q} hq hn => by
      refine GenW.wpAny_gsz (n := g + 1) hlt (wpAny_pyNext_genexpQ (A := A.in1) (P := fun _ _ s₁ => ∃ H, GFin X' a go σw H s₁ ∧ Qe H) (Y := YG X' a go fp tn σw al Wv Qs) hh hl hroom hg hgs (hgoes _ (gst_set hst rfl)) (fun v s₁ gs' hb hv hsz => ?_) (fun s₁ hp h' hk hsz => ?_))
      · obtain ⟨c, rfl, hv⟩ := hv
        refine hq c _ gs' ?_
        rcases hv with ⟨hc, i', m', H', h1, h2, h3, h4⟩ | ⟨hc, H', h1, h2⟩
        · refine .inl ⟨hc, i', m', H', h1, h2, gst_set h3 hb, ?_, h4⟩
          have hsz : g + 1 ≤ (s₁.setGen g gs').gens.size := hsz
          rw [GenW.setGen_size] at hsz
          show (s₁.gens.setIfInBounds g gs')[g]? = _
          simp [show g < s₁.gens.size from hsz]
        · exact .inr ⟨hc, H', Inv_setGen h1 hb, h2⟩
      · obtain ⟨H', h1, h2⟩ := hp
        refine hn H' _ ?_ h2
        have J : Inv X' [(a, go)] σw H' (s₁.setGen g .finished) := Inv_setGen h1 rfl
        exact J.kept (t' := s₁.toks) hk
    cases al with
    | true =>
      show codeAny _ A (.builtin "all.loop" ⟨[.ref a], []⟩) RR s
      refine codeAny_builtin F.entry_all_loop ?_
      rw [Around.under_plainId F.plain_all_loop _]
      show wpAny _ A.in1 (pyNext (.ref a) >>= _) _ _ s
      refine wpAny_bind (next (fun c s₁ gs' hv => ?_) fun H' s₁ h1 h2 => ?_)
      · refine wpAny_bind (wpAny_holding (wpAny_truthy_bool ?_))
        refine wpAny_bind (wpAny_letGo ?_)
        rcases hv with ⟨rfl, i', m', H', h1, h2, h3, h4, h5⟩ | ⟨rfl, H', h1, h2⟩
        · simp only [if_true]
          exact wpAny_pure ⟨plainId_quiet F.plain_all_loop _, ih m' i' H' _ gs' h1 h2 h3 h4 h5⟩
        · simp only [Bool.not_true, Bool.false_eq_true, if_false]
          exact wpAny_bind (wpAny_rule (wpAny_pure (hs H' _ h1 h2)))
      · exact wpAny_bind (wpAny_rule (wpAny_pure (he H' _ h1 h2)))
    | false =>
      show codeAny _ A (.builtin "any.loop" ⟨[.ref a], []⟩) RR s
      refine codeAny_builtin F.entry_any_loop ?_
      rw [Around.under_plainId F.plain_any_loop _]
      show wpAny _ A.in1 (pyNext (.ref a) >>= _) _ _ s
      refine wpAny_bind (next (fun c s₁ gs' hv => ?_) fun H' s₁ h1 h2 => ?_)
      · refine wpAny_bind (wpAny_holding (wpAny_truthy_bool ?_))
        refine wpAny_bind (wpAny_letGo ?_)
        rcases hv with ⟨rfl, i', m', H', h1, h2, h3, h4, h5⟩ | ⟨rfl, H', h1, h2⟩
        · simp only [Bool.false_eq_true, if_false]
          exact wpAny_pure ⟨plainId_quiet F.plain_any_loop _, ih m' i' H' _ gs' h1 h2 h3 h4 h5⟩
        · simp only [Bool.not_false, if_true]
          exact wpAny_bind (wpAny_rule (wpAny_pure (hs H' _ h1 h2)))
      · exact wpAny_bind (wpAny_rule (wpAny_pure (he H' _ h1 h2)))

def tGen (al : Bool) (P : Addr) (wi : TI) (g : TG) (tt : TT) (te : TE) (vs : List Nat) : TE := fun σ H Q => wi σ H fun J H1 => GxR.TabG H1 P ∧ ∀ H2, GxR.Tabbed P H1 H2 → ∃ Wv : Nat → Nat → Hp → Prop, (∃ m, Wv 0 m H2) ∧ ∀ i m H, Wv i m H →
  (J.stop i H ∧ Q (.bl al) H) ∨ (J.go i H ∧ ∃ Nx : Hp → Prop, (∀ H', Nx H' → ∃ m', m' < m ∧ Wv (i + 1) m' H') ∧ ∀ x H', J.yld i H x H' → g x (wipe σ vs) H' fun σ2 H2 => wipe σ2 vs = wipe σ vs ∧ tt σ2 H2 fun b H3 =>
    if b = true then te σ2 H3 fun y H4 => ∃ c, y = .bl c ∧ ((c = al ∧ Nx H4) ∨ (c = !al ∧ Q (.bl (!al)) H4)) else Nx H3)
def loopB (al : Bool) : String := cond al "all" "any"
theorem call_gen {A : Around} {al : Bool} {a : Addr} {Q : Value → Shared → Prop} {E : Value → Shared → Prop} {s : Shared} {prog : Program} {w : World} {g : Nat} (hg : s.heap.IsGen a g)
    (h : codeAny (model prog w) A (.builtin (loopId al) ⟨[.ref a], []⟩) (fun r s' => match r with | .ok (.ret v) => Q v s' | _ => False) s) : wpAny (model prog w) A (call (.builtin (loopB al)) [.ref a]) Q E s := by
  have h : codeAny (model prog w) A (.builtin (loopId al) ⟨[.ref a], []⟩) (fun r s' => match r with | .ok (.ret v) => Q v s' | .ok _ => False | .error e => E e s') s := codeAny_mono h fun r s' z => by
    cases r with
    | error x => exact z.elim
    | ok f => cases f with
      | ret v => exact z
      | _ => exact z.elim
  cases al with
  | true =>
    show wpAny _ A (call (.builtin "all") [.ref a]) Q E s
    refine call_function_tree F.kind_all F.plain_all F.entry_all (F.args_all1 _) ?_
    unfold Builtin.«all»
    refine wpAny_bind (m := oneArg "all" _) (wpAny_pure ?_)
    refine wpAny_bind (wpAny_pyIter_gen hg ?_)
    exact wpAny_pure ⟨plainId_quiet F.plain_all_loop _, h⟩
  | false =>
    show wpAny _ A (call (.builtin "any") [.ref a]) Q E s
    refine call_function_tree F.kind_any F.plain_any F.entry_any (F.args_any1 _) ?_
    unfold Builtin.«any»
    refine wpAny_bind (m := oneArg "any" _) (wpAny_pure ?_)
    refine wpAny_bind (wpAny_pyIter_gen hg ?_)
    exact wpAny_pure ⟨plainId_quiet F.plain_any_loop _, h⟩

theorem pe_gen {al : Bool} {c P : Addr} {k : Nat} {nm : Str} {elt tg iter : Expr} {ifs : List Expr} {scope : Scope} {own : List (Str × Nat)} {p pos gpos : Pos} {wi : TI} {g : TG} {tt : TT} {te : TE}
    (hr : Room (k + 1) X.A) (hcalm : X.calm = true) (hN : X.N.Nodup) (hg : Gl X nm) (hm : X.mg nm = none) (hb : bootBuiltins nm = some (.builtin (loopB al))) (TB : GxR.TabB X.base X.mg c P) (hcode : X.env.code = .ref c) (ok : BlkOk X.N X.env.scope scope own)
    (hcell : ∀ y ∈ scope.names, y.2 ≠ .cell) (h0 : scope.names.lookup (".0" : Str) = some NameKind.local) (hco : scope.isCoroutine = false) (hi : PI X tg iter wi)
    (hg' : ∀ (A : Around) (s : Shared) (H : Hp) (cenv : PySem.Env) (fp : List Addr), Room k A → cenv.scope = scope → PG (genX X A s H cenv fp) tg g)
    (ht : ∀ (A : Around) (s : Shared) (H : Hp) (cenv : PySem.Env) (fp : List Addr), Room k A → cenv.scope = scope → PTs (genX X A s H cenv fp) ifs tt)
    (he : ∀ (A : Around) (s : Shared) (H : Hp) (cenv : PySem.Env) (fp : List Addr), Room k A → cenv.scope = scope → PE (genX X A s H cenv fp) elt te)
    (hs : ∀ v, genFold iter X.env v = pure v) (hn : nm ≠ "__name__" := by decide) (hdb : (nm == ("__debug__" : Str)) = false := by decide)
    (hst : starEach [.GeneratorExp elt [⟨tg, iter, ifs, 0⟩] scope gpos] X.env = (false, eval (.GeneratorExp elt [⟨tg, iter, ifs, 0⟩] scope gpos) X.env) :: starEach [] X.env := by rfl) :
    PE X (.Call (.Name nm p) [.GeneratorExp elt [⟨tg, iter, ifs, 0⟩] scope gpos] [] pos) (tGen al P wi g tt te (own.map (·.2))) := by
  refine ⟨fun pins s σ H Q I h => ?_⟩
  have hfree : ∀ y ∈ scope.names, y.2 = .free → ∃ c, X.env.cells.lookup y.1 = some c := fun y hy e => by
    rcases ok.free y hy e with k | k
    · exact I.ok.has _ (.inl k)
    · exact I.ok.has _ (.inr k)
  have hroom : X.A.depth < recursionLimit := by have := hr.dp; omega
  refine wpAny_Call_Name_kw (ld_blt I hg hm hb ?_ hn hdb)
  refine PyProof.Rows.callWith_builtin1 ?_ hst (by rfl)
  rw [hst]
  show wpAny _ _ (spliced ((false, eval (.GeneratorExp elt [⟨tg, iter, ifs, 0⟩] scope gpos) X.env) :: backTo pos (starEach [] X.env))) _ _ s
  refine Calls.spliced_cons (wpAny_GeneratorExp_make hco (closure_ok hfree) hcell h0 ok.kind hroom ?_ hs)
  refine thn (hi.run pins s σ H _ I h) fun xv s1 hx => thn hx fun itv s2 h2 => ?_
  obtain ⟨it, fp, tn, J, H2, rfl, I2, T, st2, f2, ⟨ps, hP, htr⟩, q⟩ := h2
  refine ⟨I2.nolimit, ?_⟩
  have hPs : s2.heap.get? P = some { cls := .none, data := .fields ps } := I2.hok P _ hP
  have cd : PySem.W.CodeHd s2.heap c P := TB.code.keeps fun b u e => I2.bk b u e
  have hne : ∀ b ∈ fp, b ≠ P := fun b hb e => by
    have := (f2 b hb).1
    rw [e, hP] at this; cases this
  have sz2 : ∀ b ∈ fp, b < s2.heap.objs.size := fun b hb => by
    obtain ⟨o, e, _⟩ := T.obj _ _ st2 b hb
    exact Heap.lt_size e
  have cont : ∀ (code : Value) (h3 : Heap) (tk : Nat) (ps' : Array Value), Heap.ExtBut P s2.heap h3 → s2.heap.objs.size ≤ h3.objs.size → h3.get? P = some { cls := .none, data := .fields ps' } → (∃ more, ps' = ps ++ more) → TriplesOk ps'.toList →
      wpAny (model X.prog X.w) X.A (builtinsFor X.env.globals X.env.builtins) (fun bi s₄ => ∀ h', h'.Ns s₄.heap.objs.size (fun y => if y = ".0" then some (Value.ref it) else none) → Heap.SameBut s₄.heap.objs.size (s₄.heap.push { cls := .type "frame", data := .dict #[] }) h' →
          wpAny (model X.prog X.w) X.A (spliced (backTo pos (starEach [] X.env))) (fun vs s' => wpAny (model X.prog X.w) X.A (call (.builtin (loopB al)) (.ref h'.objs.size :: vs)) (EP X pins σ Q) X.xe s') X.xe { s₄ with
            gens := s₄.gens.push (.fresh (.compStart (.GeneratorExp elt [⟨tg, iter, ifs, 0⟩] scope gpos) 0 (.ref it) .none (genEnv scope (cloFrom X.env.cells scope.names []) s₄.heap.objs.size code bi X.env))),
            toks := s₄.toks + 1 + 1 + 1,
            heap := h'.push { cls := .type "generator", data := .fields #[.int s₄.gens.size 0, .str "<genexpr>" (s₄.toks + 1), .str (X.env.qual ++ "<genexpr>") (s₄.toks + 1 + 1)] } }) X.xe { s2 with heap := h3, toks := tk } := by
    intro code h3 tk ps' hx hsz hP3 ⟨more, hmore⟩ ht3
    subst hmore
    have I3 : Inv X pins σ (upd H2 P (.tbl (ps ++ more))) { s2 with heap := h3, toks := tk } := GxR.inv_tab (g' := s2.gens) (d' := s2.drawn) (t' := tk) I2 hP (fun b o hb e => hx b o hb e) hP3 I2.bare
    obtain ⟨Wv, ⟨m0, w0⟩, turn⟩ := q _ ⟨⟨ps ++ more, upd_same, ht3⟩, fun b hb => upd_ne hb⟩
    generalize hH3 : upd H2 P (.tbl (ps ++ more)) = H3 at I3 w0
    generalize hs3 : ({ s2 with heap := h3, toks := tk } : Shared) = s3 at I3 ⊢
    have h3e : s3.heap = h3 := by rw [← hs3]
    have f3 : ∀ b ∈ fp, FpOk X pins H3 b ∧ b < s3.heap.objs.size := fun b hb => by
      refine ⟨⟨?_, (f2 b hb).2⟩, by rw [h3e]; exact Nat.lt_of_lt_of_le (sz2 b hb) hsz⟩
      rw [← hH3, upd_ne (hne b hb)]
      exact (f2 b hb).1
    have st3 : tn 0 s3.heap := T.keep _ _ _ st2 fun b hb o e => by rw [h3e]; exact hx b o (hne b hb) e
    obtain ⟨bm, ob, e1, e2, e3, e4, e5, e6, e7, e8⟩ := TB.bm
    refine wpAny_builtinsFor (m := X.mg) (by rw [I3.ok.glob]; exact I3.mod.glob.keeps I3.bk) e1 e2 (I3.bk _ _ e5) e6 e7 e8 ?_
    intro h' hn' hs'
    refine Calls.spliced_nil ?_
    have hsz' : h'.objs.size = s3.heap.objs.size + 1 := by rw [hs'.1, Heap.size_push]
    generalize hce : genEnv scope (cloFrom X.env.cells scope.names []) s3.heap.objs.size code builtinsNs X.env = cenv
    generalize hAg : X.A.in1.in1.over (.compLoop (.GeneratorExp elt [⟨tg, iter, ifs, 0⟩] scope gpos) 0 (.ref it) .none cenv) [] = Ag
    have hrg : Room k Ag := by
      rw [← hAg]
      refine ⟨hr.hd, ?_, ?_⟩
      · have := hr.dp
        show X.A.depth + 0 + 1 + 3 * k + 5 < recursionLimit
        omega
      · have := hr.un
        show X.A.units + 1 + 1 + 0 + 3 + 16 * k + 200 < cLine
        omega
    have J0 := gen_start (A' := Ag) (code := code) (it := .ref it) (bi := builtinsNs) (h' := h') (tk := s3.toks + 1 + 1 + 1) (go := { cls := .type "generator", data := .fields #[.int s3.gens.size 0, .str "<genexpr>" (s3.toks + 1), .str (X.env.qual ++ "<genexpr>") (s3.toks + 1 + 1)] })
      (gs := .fresh (.compStart (.GeneratorExp elt [⟨tg, iter, ifs, 0⟩] scope gpos) 0 (.ref it) .none cenv)) I3 ok hN hcell f3 hrg.hd (by
        rw [hce, ← hAg]
        show pushEnvs [cenv] (pushEnvs [] X.A.frames) = _
        rw [I3.ok.frames]; rfl) rfl hn' hs' (by intro v z; cases z) rfl rfl
    rw [hce] at J0
    have back : ∀ {ps : List (Addr × Obj)} {σ' : L2.St} {H' : Hp} {s' : Shared}, Inv (genX X Ag s3 H3 cenv fp) ps σ' H' s' → Inv X pins σ H' s' := fun {ps σ' H' s'} J =>
      I3.call' (ch := fp) J.os J.base J.hok J.bare fun b hb => ⟨(f3 b hb).1.2.2.2.1, (f3 b hb).1.2.1, (f3 b hb).1.2.2.2.2.1, (f3 b hb).1.2.2.2.2.2⟩
    have hafp : h'.objs.size ∉ fp := fun hb => by
      have h1 : h'.objs.size < s3.heap.objs.size := (f3 _ hb).2
      omega
    have keep5 : ∀ b o, s3.heap.get? b = some o → (h'.push { cls := .type "generator", data := .fields #[.int s3.gens.size 0, .str "<genexpr>" (s3.toks + 1), .str (X.env.qual ++ "<genexpr>") (s3.toks + 1 + 1)] }).get? b = some o := fun b o e => Heap.get?_push_of_some _ (hs'.extBut b o (Nat.ne_of_lt (Heap.lt_size e)) (Heap.get?_push_of_some _ e))
    have cs : cenv.scope = scope := by rw [← hce]; rfl
    have st0 : GSt (genX X Ag s3 H3 cenv fp) h'.objs.size { cls := .type "generator", data := .fields #[.int s3.gens.size 0, .str "<genexpr>" (s3.toks + 1), .str (X.env.qual ++ "<genexpr>") (s3.toks + 1 + 1)] } fp tn (wipe σ (own.map (·.2))) 0 H3 _ :=
      ⟨J0, T.keep _ _ _ st3 fun b hb o e => keep5 b o e, fun b hb => (f3 b hb).1.1⟩
    refine call_gen (g := s3.gens.size) ⟨_, _, _, Heap.get?_push_size _ rfl, rfl, rfl, rfl⟩ ?_
    refine loop_run (X' := genX X Ag s3 H3 cenv fp) (A := X.A) (g := s3.gens.size) (Wv := Wv) (Qs := fun H => Q (.bl (!al)) H) (Qe := fun H => Q (.bl al) H) hr.hd hroom (fun h e => ⟨_, _, _, e, rfl, rfl, rfl⟩)
      (fun H' s' J q => ⟨.bl (!al), H', back J, rfl, q⟩) (fun H' s' J q => ⟨.bl al, H', back J, rfl, q⟩) (m0 + 1) m0 0 H3 _ _ (Nat.lt_succ_self _) w0 st0 (Array.getElem?_push_size ..) fun s'' hst'' => ⟨rfl, ?_⟩
    refine seg_gs (X' := genX X Ag s3 H3 cenv fp) T hst''.2.1 ?_
    exact seg_gl (X' := genX X Ag s3 H3 cenv fp) (vs := own.map (·.2)) hAg (by show cenv.scope.isCoroutine = false; rw [cs]; exact hco) hcalm rfl rfl rfl hafp T (hg' _ _ _ _ _ hrg cs) (ht _ _ _ _ _ hrg cs) (he _ _ _ _ _ hrg cs) turn m0 (m0 + 1) 0 H3 s'' s'' (Nat.lt_succ_self _) w0 hst''
  cases hf : codeAmong gpos ps.toList with
  | none =>
    refine wpAny_genexprCodeX hcode (cd.code hPs htr) (cd.tab hPs) hf fun c' h' tk hx hge hlt hco' _ htab' _ => ?_
    obtain ⟨o1, vs, f1, tf, fl, tg, inF, tx, tt, op, _, _, _, _, _, _, _, _, _, htr', _⟩ := hco'
    exact cont _ h' tk _ hx (Nat.le_trans hge (Nat.le_of_lt hlt)) htab'.2 ⟨_, rfl⟩ htr'
  | some cv =>
    refine wpAny_genexprCode_hit hcode (cd.code hPs htr) hf ?_
    exact cont cv s2.heap s2.toks ps (Heap.ExtBut.refl _ _) (Nat.le_refl _) hPs ⟨#[], by simp⟩ htr
end
end DL
namespace DL
open PySem PySem.Spec PyProof.Rows L2
def SC.gen (S : SC) (scope : Scope) : SC := { S with sc := scope, df := false, fnc := fun _ => false, W := fun _ _ _ _ => False, k := S.k - 1, code := none, ql := none }
theorem InC.gen {S : SC} {X : Cx} (c : InC S X) (scope : Scope) {A : Around} {s : Shared} {H : Hp} {cenv : PySem.Env} {fp : List Addr} (hr : Room (S.k - 1) A) (hs : cenv.scope = scope) : InC (S.gen scope) (genX X A s H cenv fp) where
  P := c.P
  w := c.w
  K := c.K
  mg := c.mg
  base := c.base
  N := c.N
  sc := hs
  calm := c.calm
  room := hr
  takes := fun u s' ⟨a, B, sI, pins, σ, H, cls, d, e, I, nb, up, sky, na, os, ag, w⟩ => w
  own := by intro h; cases h
  stk := by intro h; cases h
  fn := by intro x h; cases h
  code := by intro v h; cases h
  ql := by intro v h; cases h
section
variable {K : KP} {W : Wd} {P : Addr} {H2 : Hp}
def Wd.tab (W : Wd) (H2 : Hp) : Wd := { W with H := H2 }
theorem le_tab (k : Ok K W) (hP : P ∈ K.tabs) (t : GxR.Tabbed P W.H H2) : Le K W (W.tab H2) := by
  obtain ⟨⟨ps, e0, _⟩, t1, t2⟩ := k.tb P hP
  have hr : ∀ {a : Addr} {u : HO}, HO.live u = true ∨ (∃ ys, u = .tup ys) → Rd W.H a u → Rd H2 a u := fun {a u} hu h => by
    have hne : a ≠ P := fun q => by
      subst q
      rcases h with h | ⟨o, h⟩ <;> rw [e0] at h <;> cases h
      rcases hu with hu | ⟨ys, hu⟩ <;> cases hu
    rcases h with h | ⟨o, h⟩
    · exact .inl (by rw [t.2 a hne]; exact h)
    · exact .inr ⟨o, by rw [t.2 a hne]; exact h⟩
  refine ⟨fun _ _ h => h, fun a xs h => ?_, fun a xs h f => ⟨hr (.inl rfl) h, f⟩, fun a xs h f => ⟨hr (.inl rfl) h, f⟩, fun a xs h f => ⟨hr (.inl rfl) h, f⟩, fun a o u h => ?_, fun a h => ⟨h, t.2 a fun q => t2 (q ▸ h)⟩⟩
  · rcases h with h | h
    · exact .inl (hr (.inr ⟨_, rfl⟩) h)
    · exact .inr h
  · show H2 a = _
    rw [t.2 a fun q => by rw [q, e0] at h; cases h]
    exact h
theorem Ok.tab (k : Ok K W) (hP : P ∈ K.tabs) (t : GxR.Tabbed P W.H H2) : Ok K (W.tab H2) := by
  obtain ⟨t0, t1, t2⟩ := k.tb P hP
  refine ⟨k.len, k.nd, fun n a o h1 h2 => (k.ob n a o h1 h2).mono (le_tab k hP t) (t.2 a fun q => t1 (q ▸ List.mem_of_getElem? h1)), k.pn, fun a h => ?_, fun a h => ?_, fun a h => ?_⟩
  · obtain ⟨u, e⟩ := k.ph a h
    exact ⟨u, (t.2 a fun q => t2 (q ▸ h)).trans e⟩
  · obtain ⟨u0, u1, u2⟩ := k.tb a h
    refine ⟨?_, u1, u2⟩
    by_cases q : a = P
    · rw [q]; exact t.1
    · obtain ⟨ps, e, z⟩ := u0
      exact ⟨ps, (t.2 a q).trans e, z⟩
  · obtain ⟨u1, u2, u3, u4, u5⟩ := k.lm a h
    exact ⟨u1.mono (t.2 a.1 fun q => u4 (q ▸ hP)) (le_tab k hP t).z, u2, u3, u4, u5⟩
end
noncomputable def genL (al : Bool) (g : Option (Nat × O)) (turn : DL.D → Mo (Option Bool)) : List DL.D → Mo Bool
  | [] => guardM g (Mo.ret al)
  | d :: r => guardM g (Mo.bnd (turn d) fun o => match o with
    | some c => cond (c == al) (genL al g turn r) (Mo.ret (!al))
    | none => genL al g turn r)
def blD (y : DL.D) : Mo (Option Bool) := match y with
  | .bl c => Mo.ret (some c)
  | _ => Mo.stuck
def turnG (ρ : En) (h : DL.D → En → Mo En) (c : En → Mo Bool) (e : En → Mo DL.D) (d : DL.D) : Mo (Option Bool) := .bnd (h d ρ) fun ρ1 => .bnd (c ρ1) fun b => cond b (.bnd (e ρ1) blD) (.ret none)
def genD (m : Mo Bool) : Mo DL.D := .bnd m.ne fun b => .ret (.bl b)
section
variable {S : SC}
theorem genD_inv {W : Wd} {σ : L2.St} {m : Mo Bool} {Q : VK} (h : Post S W σ (genD m W.M) (PV S Q)) : ∃ b M', m W.M = some (.ok b, M') ∧ ∀ W', Le S.K W W' → Ok S.K W' → W'.M = M' → Q (.bl b) W'.H := by
  unfold genD Mo.bnd Mo.ne at h
  cases e : m W.M with
  | none => simp only [e] at h; exact h.elim
  | some p =>
    obtain ⟨r, M1⟩ := p
    cases r with
    | error x => simp only [e] at h; exact h.elim
    | ok b =>
      simp only [e] at h
      exact ⟨b, M1, rfl, fun W' l k m => h W' l k m _ (.bl b)⟩
theorem ex_gen (al : Bool) {c P : Addr} {nm : Str} {elt tg iter : Expr} {ifs : List Expr} {scope : Scope} (own : List (Str × Nat)) {p pos gpos : Pos} {f : En → Mo Itd'} {h : DL.D → En → Mo En} {c' : En → Mo Bool} {e : En → Mo DL.D}
    (hk : 1 ≤ S.k) (hN : S.N.Nodup) (hg : Gs S nm) (hm : S.mg nm = none) (hb : bootBuiltins nm = some (.builtin (loopB al))) (TB : GxR.TabB S.base S.mg c P) (hcode : S.code = some (.ref c)) (hP : P ∈ S.cs.map (·.2)) (ok : BlkOk S.N S.sc scope own)
    (hcell : ∀ y ∈ scope.names, y.2 ≠ .cell) (h0 : scope.names.lookup (".0" : Str) = some NameKind.local) (hco : scope.isCoroutine = false)
    (hi : IX S tg iter f) (hgv : GV (S.gen scope) (own.map (·.2)) tg h) (ht : TXs (S.gen scope) ifs c') (he : EX (S.gen scope) elt e)
    (hs : ∀ (env : PySem.Env) v, genFold iter env v = pure v := by intro _ _; rfl) (hn : nm ≠ "__name__" := by decide) (hdb : (nm == ("__debug__" : Str)) = false := by decide)
    (hst : ∀ env : PySem.Env, starEach [.GeneratorExp elt [⟨tg, iter, ifs, 0⟩] scope gpos] env = (false, eval (.GeneratorExp elt [⟨tg, iter, ifs, 0⟩] scope gpos) env) :: starEach [] env := by intro; rfl) :
    EX S (.Call (.Name nm p) [.GeneratorExp elt [⟨tg, iter, ifs, 0⟩] scope gpos] [] pos) (fun ρ => .bnd (f ρ) fun it => genD (genL al it.gd (turnG (wipeR ρ (own.map (·.2))) h c' e) it.items)) := by
  obtain ⟨wi, i1, i2⟩ := hi.ex
  obtain ⟨g, g1, g2⟩ := hgv.ex
  obtain ⟨tt, t1, t2⟩ := ht.ex
  obtain ⟨te, e1, e2⟩ := he.ex
  refine ⟨tGen al P wi g tt te (own.map (·.2)), fun X c => pe_gen (k := S.k - 1) (by have := c.room; rw [show S.k - 1 + 1 = S.k by omega]; exact this) c.calm (by rw [c.N]; exact hN) (gl_of c hg) (by rw [c.mg]; exact hm) hb (by rw [c.base, c.mg]; exact TB) (c.code _ hcode) (by rw [c.N, c.sc]; exact ok) hcell h0 hco (i1 X c)
    (fun A s H cenv fp hr hs => g1 _ (c.gen scope hr hs)) (fun A s H cenv fp hr hs => t1 _ (c.gen scope hr hs)) (fun A s H cenv fp hr hs => e1 _ (c.gen scope hr hs)) (hs X.env) hn hdb (hst X.env), fun W σ ρ Q k st hh => ?_⟩
  refine i2 W σ ρ _ k st (Post.imp (Post.bnd hh) fun it W1 l1 k1 q J hJ => ?_)
  have hPk : P ∈ S.K.tabs := hP
  refine ⟨(k1.tb P hPk).1, fun H2 tb => ?_⟩
  have lt := le_tab k1 hPk tb
  have kt := k1.tab hPk tb
  obtain ⟨b, M', hl, q⟩ := genD_inv q
  refine ⟨fun i m H' => m = it.items.length - i ∧ i ≤ it.items.length ∧ ∃ W2, Le S.K W1 W2 ∧ Ok S.K W2 ∧ W2.H = H' ∧ genL al it.gd (turnG (wipeR ρ (own.map (·.2))) h c' e) (it.items.drop i) W2.M = some (.ok b, M'),
    ⟨_, rfl, Nat.zero_le _, W1.tab H2, lt, kt, rfl, hl⟩, ?_⟩
  rintro i m H' ⟨rfl, hi, W2, l2, k2, rfl, hc⟩
  by_cases hlt : i < it.items.length
  · rw [List.drop_eq_getElem_cons hlt] at hc
    obtain ⟨hgd, hc⟩ := guard_ok hc
    obtain ⟨o, M3, hturn, hrest⟩ := bnd_ok hc
    obtain ⟨go, yl⟩ := (hJ.2 W2 l2.toZ k2 hgd).1 i hlt
    refine .inr ⟨go, fun H3 => ∃ W3, Le S.K W1 W3 ∧ Ok S.K W3 ∧ W3.H = H3 ∧ genL al it.gd (turnG (wipeR ρ (own.map (·.2))) h c' e) (it.items.drop (i + 1)) W3.M = some (.ok b, M'), ?_, ?_⟩
    · rintro H3 ⟨W3, a1, a2, a3, a4⟩
      exact ⟨_, by omega, rfl, hlt, W3, a1, a2, a3, a4⟩
    · intro x H' hy
      obtain ⟨W3, l3, k3, m3, rfl, d, hd, rd⟩ := yl x H' hy
      have hd' : d = it.items[i] := by
        rw [List.getElem?_eq_getElem hlt] at hd
        exact (Option.some.inj hd).symm
      subst hd'
      obtain ⟨ρ1, M4, q1, hturn⟩ := bnd_ok hturn
      obtain ⟨b', M5, q2, hturn⟩ := bnd_ok hturn
      rw [← m3] at q1
      have l13 := l2.trans l3
      have st3 : StR S.K W3 (wipe σ (own.map (·.2))) (wipeR ρ (own.map (·.2))) := ((st.mono l1).mono l13).wipe _
      refine g2 W3 _ _ x _ _ k3 st3 rd (post0_of q1 fun W4 l4 k4 m4 σ4 st4 hw => ⟨hw.trans (wipe_ext (wipe_length _ _) fun j hj => wipe_out hj), ?_⟩)
      rw [← m4] at q2
      refine t2 W4 σ4 ρ1 _ k4 st4 (post_of q2 fun W5 l5 k5 m5 => ?_)
      have l15 : Le S.K W1 W5 := (l13.trans l4).trans l5
      cases b' with
      | false =>
        obtain ⟨rfl, rfl⟩ := ret_ok hturn
        exact ⟨W5, l15, k5, rfl, by rw [m5]; exact hrest⟩
      | true =>
        rw [if_pos rfl]
        obtain ⟨y, M6, q3, q4⟩ := bnd_ok (m := e ρ1) hturn
        rw [← m5] at q3
        refine e2 W5 σ4 ρ1 _ k5 (st4.mono l5) (post_of q3 fun W6 l6 k6 m6 v rv => ?_)
        cases y with
        | bl z =>
          obtain ⟨rfl, rfl⟩ := ret_ok q4
          cases rv
          refine ⟨z, rfl, ?_⟩
          by_cases hz : z = al
          · subst hz
            simp only [beq_self_eq_true, cond_true] at hrest
            exact .inl ⟨rfl, W6, l15.trans l6, k6, rfl, by rw [m6]; exact hrest⟩
          · have hz' : (z == al) = false := by simpa using hz
            simp only [hz', cond_false] at hrest
            obtain ⟨rfl, rfl⟩ := ret_ok hrest
            exact .inr ⟨by cases z <;> cases al <;> simp_all, q W6 (l15.trans l6) k6 m6⟩
        | _ => cases q4
  · have e : i = it.items.length := by omega
    subst e
    rw [List.drop_length] at hc
    obtain ⟨hgd, hc⟩ := guard_ok hc
    obtain ⟨rfl, rfl⟩ := ret_ok hc
    exact .inl ⟨(hJ.2 W2 l2.toZ k2 hgd).2, q W2 l2 k2 rfl⟩
end
end DL
namespace DL
open PySem PySem.Spec PyProof.Rows L2
/-- one turn of a clause; mk: what is done with an item that passes, ahead of the next turn -/
def turnOf (tg iter : Expr) (ifs : List Expr) (env : PySem.Env) (it : Value) (mk : Sem PySem.Fin → Sem PySem.Fin) (nxt : Sem PySem.Fin) : Sem PySem.Fin :=
  standAt iter.pos >>= fun _ => pyNext it >>= fun r => match r with
    | none => pure (.done .next)
    | some v => letOwnedTupleGo tg it v >>= fun _ => assign tg env v >>= fun _ =>
      (forIn ifs true fun c r => if r = true then do let ok ← isTrue c env (eval c env); pure (ForInStep.yield ok) else pure (ForInStep.yield r)) >>= fun ok => if ok = true then mk nxt else nxt
abbrev TB := L2.St → Hp → (Hp → Prop) → Prop
section
variable {Xb : Cx}
structure PB (Xb : Cx) (vs : List Nat) (mk : Sem PySem.Fin → Sem PySem.Fin) (t : TB) : Prop where
  run : ∀ (pins : List (Addr × Obj)) (s : Shared) (σ : L2.St) (H : Hp) (K : Hp → Prop) (k : Sem PySem.Fin) (Q : PySem.Fin → Shared → Prop) (E : Value → Shared → Prop), Inv Xb pins σ H s → t σ H K →
    (∀ s' H', Inv Xb pins (wipe σ vs) H' s' → K H' → wpAny (model Xb.prog Xb.w) Xb.A k Q E s') → wpAny (model Xb.prog Xb.w) Xb.A (mk k) Q E s
theorem inv_wipe {pins : List (Addr × Obj)} {σ : L2.St} {H : Hp} {s : Shared} (I : Inv Xb pins σ H s) (vs : List Nat) : Inv Xb pins (wipe σ vs) H s := I.weak (wipe_length _ _) fun j v e => (wipe_some e).1
theorem wipe_more {σ : L2.St} {vs ws : List Nat} (h : ∀ i ∈ ws, i ∈ vs) : wipe (wipe σ ws) vs = wipe σ vs := wipe_ext (wipe_length _ _) fun j hj => wipe_out fun q => hj (h j q)
/-- the clause's loop -/
def tLoop (g : TG) (tt : TT) (t : TB) (vs : List Nat) (J : It) : TB := fun σ H K => ∃ Wv : Nat → Nat → Hp → Prop, (∃ m, Wv 0 m H) ∧ ∀ i m H, Wv i m H →
  (J.stop i H ∧ K H) ∨ (J.go i H ∧ ∃ Nx : Hp → Prop, (∀ H', Nx H' → ∃ m', m' < m ∧ Wv (i + 1) m' H') ∧ ∀ x H', J.yld i H x H' → g x (wipe σ vs) H' fun σ2 H2 => wipe σ2 vs = wipe σ vs ∧ tt σ2 H2 fun b H3 =>
    if b = true then t σ2 H3 Nx else Nx H3)
theorem loop_gen {C : Expr} {j : Nat} {acc : Value} {tg iter : Expr} {ifs : List Expr} {vs : List Nat} {mk : Sem PySem.Fin → Sem PySem.Fin} {it : Addr} {fp : List Addr} {tn : Nat → Heap → Prop} {J : It} {g : TG} {tt : TT} {t : TB}
    (hc : Xb.calm = true) (hxe : Xb.xe = fun _ _ => False) (hw : (Code.compLoop C j (.ref it) acc Xb.env).quiet = true) (hu : Xb.A.under (.compLoop C j (.ref it) acc Xb.env) = Xb.A)
    (hden : (model Xb.prog Xb.w).den (.compLoop C j (.ref it) acc Xb.env) = (compTurn C j (.ref it) acc Xb.env).onRaise (fun x => do noteFrame x Xb.env; theTreesLotGoes x))
    (heq : compTurn C j (.ref it) acc Xb.env = turnOf tg iter ifs Xb.env (.ref it) mk (again (.compLoop C j (.ref it) acc Xb.env)))
    (T : Turn Xb.prog Xb.w Xb.K tg J fp it tn) (pg : PG Xb tg g) (pt : PTs Xb ifs tt) (pm : PB Xb vs mk t)
    {pins : List (Addr × Obj)} {σ : L2.St} {H : Hp} {s : Shared} {K : Hp → Prop} {R : Result → Shared → Prop} (I : Inv Xb pins (wipe σ vs) H s) (st : tn 0 s.heap) (hf : ∀ b ∈ fp, FpOk Xb pins H b) (h : tLoop g tt t vs J σ H K)
    (hR : ∀ s' H', Inv Xb pins (wipe σ vs) H' s' → K H' → R (.ok .next) s') : codeAny (model Xb.prog Xb.w) Xb.A (.compLoop C j (.ref it) acc Xb.env) R s := by
  obtain ⟨Wv, ⟨m0, w0⟩, turn⟩ := h
  have stat : ∀ {H' : Hp}, (∀ b ∈ fp, H' b = none) → ∀ b ∈ fp, FpOk Xb pins H' b := fun hn b hb => ⟨hn b hb, (hf b hb).2⟩
  refine codeAny_loop hw (fun n s' => ∃ i H', Inv Xb pins (wipe σ vs) H' s' ∧ tn i s'.heap ∧ (∀ b ∈ fp, H' b = none) ∧ Wv i n H') ?_ m0 ⟨0, H, I, st, fun b hb => (hf b hb).1, w0⟩
  rintro n s5 ⟨i, H5, I5, st5, n5, w5⟩
  rw [hu, hden]
  refine wpAny_noted ?_
  rw [heq]
  refine wpAny_bind (wpAny_standAt ?_)
  rcases turn i n H5 w5 with ⟨stop, qq⟩ | ⟨go, Nx, hNx, step⟩
  · have td := T.done Xb rfl rfl rfl hc i pins s5 _ H5 (fun _ _ => False) I5 (stat n5) st5 stop
    refine wpAny_bind (thnF td fun r s6 ⟨hr, I6⟩ => ?_)
    subst hr
    exact wpAny_pure (hR s6 H5 I6 qq)
  · have ti := T.item Xb rfl rfl rfl hc i pins s5 _ H5 (fun _ _ => False) I5 (stat n5) st5 go
    refine wpAny_bind (thnF ti fun r s6 ⟨u, hr, h6⟩ => ?_)
    subst hr
    refine wpAny_bind (thnF h6 fun _ s7 ⟨x, H7, I7, r7, y7, st7, n7⟩ => ?_)
    have I7' := I7.pinned (stat n7) (T.obj _ _ st7)
    refine wpAny_bind (wpAny_mono (pg.run _ s7 _ H7 x u _ I7' r7 (step x H7 y7)) (fun _ s8 ⟨σ8, H8, I8, hw8, q8⟩ => ?_) fun _ _ z => by rw [hxe] at z; exact z.elim)
    refine wpAny_bind (wpAny_mono (pt.run _ s8 σ8 H8 _ I8 q8) (fun b s9 ⟨H9, I9, q9⟩ => ?_) fun _ _ z => by rw [hxe] at z; exact z.elim)
    have fin : ∀ {s' : Shared} {H' : Hp}, Inv Xb (pins ++ pinsAt fp s7.heap) (wipe σ8 vs) H' s' → Nx H' → ∃ m, m < n ∧ ∃ i H', Inv Xb pins (wipe σ vs) H' s' ∧ tn i s'.heap ∧ (∀ b ∈ fp, H' b = none) ∧ Wv i m H' := fun {s' H'} I' nx => by
      obtain ⟨m', hm, w'⟩ := hNx H' nx
      have pin' : ∀ b ∈ fp, ∀ o, s7.heap.get? b = some o → s'.heap.get? b = some o ∧ H' b = none := fun b hb o e =>
        let z := I'.pin (b, o) (List.mem_append_right _ (List.mem_append_right _ (mem_pinsAt hb e)))
        ⟨z.1, z.2.1⟩
      refine ⟨m', hm, i + 1, H', by rw [← hw8]; exact I'.unpinned (pins := pins), T.keep _ _ _ st7 fun b hb o e => (pin' b hb o e).1, fun b hb => ?_, w'⟩
      obtain ⟨o, e, _⟩ := T.obj _ _ st7 b hb
      exact (pin' b hb o e).2
    cases b with
    | false =>
      simp only [Bool.false_eq_true, if_false] at q9 ⊢
      exact wpAny_pure ⟨rfl, fin (inv_wipe I9 vs) q9⟩
    | true =>
      simp only [if_true] at q9 ⊢
      exact pm.run _ s9 σ8 H9 Nx _ _ _ I9 q9 fun s' H' I' nx => wpAny_pure ⟨rfl, fin I' nx⟩
/-- the start of a clause's code -/
theorem start_gen {C : Expr} {j : Nat} {acc : Value} {cl : Comprehension} {it : Addr} {fp : List Addr} {tn : Nat → Heap → Prop} {J : It} {tg : Expr} {s : Shared} {R : Result → Shared → Prop}
    (hcl : (clausesOf C)[j]? = some cl) (ha : cl.is_async = 0) (hu : Xb.A.under (.compStart C j (.ref it) acc Xb.env) = Xb.A)
    (hden : (model Xb.prog Xb.w).den (.compStart C j (.ref it) acc Xb.env) = (compStart C j (.ref it) acc Xb.env).onRaise (fun x => do noteFrame x Xb.env; standAt theWindowsPlace)) (hq : (Code.compLoop C j (.ref it) acc Xb.env).quiet = true)
    (T : Turn Xb.prog Xb.w Xb.K tg J fp it tn) (st : tn 0 s.heap) (h : codeAny (model Xb.prog Xb.w) Xb.A (.compLoop C j (.ref it) acc Xb.env) R s) : codeAny (model Xb.prog Xb.w) Xb.A (.compStart C j (.ref it) acc Xb.env) R s := by
  refine codeAny_of_tree ?_
  rw [hu, hden]
  refine wpAny_notedAt ?_
  unfold compStart
  rw [hcl]
  simp only [Option.elim, ha]
  show wpAny _ _ (ask >>= _) _ _ s
  refine wpAny_bind (wpAny_askSetting (wpAny_ite ?_))
  split
  · first
      | exact wpAny_bind (wpAny_pure (wpAny_pure (And.intro hq h)))
      | exact wpAny_pure (And.intro hq h)
  · first
      | exact wpAny_bind (wpAny_rule (wpAny_bind (wpAny_standAt (wpAny_bind (T.self _ 0 s _ _ st (wpAny_pure (And.intro hq h)))))))
      | (refine wpAny_bind (wpAny_rule ?_); show wpAny _ _ (standAt cl.iter.pos >>= _) _ _ s; exact wpAny_bind (wpAny_standAt (wpAny_bind (T.self _ 0 s _ _ st (wpAny_pure (And.intro hq h))))))

def mkIn (C : Expr) (j : Nat) (i1 : Expr) (env : PySem.Env) (acc : Value) (k : Sem PySem.Fin) : Sem PySem.Fin :=
  eval i1 env >>= fun x => standAt i1.pos >>= fun _ => foldedSetIterable i1 env x >>= fun x => holding [x] (pyIter x) >>= fun it1 => runOwn (.compStart C j it1 acc env) env >>= fun _ => k
def tIn (wi : TI) (g : TG) (tt : TT) (t : TB) (vs : List Nat) : TB := fun σ H K => wi σ H fun J H1 => tLoop g tt t vs J σ H1 K
theorem pb_in {C : Expr} {j : Nat} {acc : Value} {tg iter : Expr} {ifs : List Expr} {vs ws : List Nat} {mk : Sem PySem.Fin → Sem PySem.Fin} {wi : TI} {g : TG} {tt : TT} {t : TB} {cl : Comprehension}
    (hsub : ∀ i ∈ ws, i ∈ vs) (hc : Xb.calm = true) (hxe : Xb.xe = fun _ _ => False) (hcl : (clausesOf C)[j]? = some cl) (ha : cl.is_async = 0)
    (hu : ∀ it, Xb.A.under (.compStart C j it acc Xb.env) = Xb.A ∧ Xb.A.under (.compLoop C j it acc Xb.env) = Xb.A ∧ (Code.compLoop C j it acc Xb.env).quiet = true)
    (hden : ∀ it, (model Xb.prog Xb.w).den (.compStart C j it acc Xb.env) = (compStart C j it acc Xb.env).onRaise (fun x => do noteFrame x Xb.env; standAt theWindowsPlace) ∧
      (model Xb.prog Xb.w).den (.compLoop C j it acc Xb.env) = (compTurn C j it acc Xb.env).onRaise (fun x => do noteFrame x Xb.env; theTreesLotGoes x))
    (heq : ∀ it, compTurn C j it acc Xb.env = turnOf tg iter ifs Xb.env it mk (again (.compLoop C j it acc Xb.env)))
    (hi : PI Xb tg iter wi) (pg : PG Xb tg g) (pt : PTs Xb ifs tt) (pm : PB Xb ws mk t) (hs : ∀ x, foldedSetIterable iter Xb.env x = pure x) : PB Xb vs (mkIn C j iter Xb.env acc) (tIn wi g tt t ws) := by
  refine ⟨fun pins s σ H K k Q E I h hk => ?_⟩
  have ne : ∀ {a : Value} {s : Shared}, Xb.xe a s → E a s := fun z => by rw [hxe] at z; exact z.elim
  refine wpAny_bind (wpAny_mono (hi.run pins s σ H _ I h) (fun xv s1 hx => ?_) fun _ _ z => ne z)
  refine wpAny_bind (wpAny_standAt (wpAny_bind (wpAny_of_eq (hs xv) (wpAny_bind (wpAny_holding (wpAny_mono hx (fun itv s2 h2 => ?_) fun _ _ z => ne z))))))
  obtain ⟨it, fp, tn, J, H2, rfl, I2, T, st2, f2, q⟩ := h2
  refine wpAny_bind (wpAny_runOwn ?_)
  rw [Around.mark_none]
  refine codeAny_mono (start_gen hcl ha (hu _).1 (hden _).1 (hu _).2.2 T st2 (loop_gen hc hxe (hu _).2.2 (hu _).2.1 (hden _).2 (heq _) T pg pt pm (inv_wipe I2 ws) st2 f2 q (R := fun r s' => r = .ok .next ∧ ∃ H', Inv Xb pins (wipe σ ws) H' s' ∧ K H') fun s' H' I' kk => ⟨rfl, H', I', kk⟩)) fun r s' hr => ?_
  obtain ⟨rfl, H', I', kk⟩ := hr
  refine hk s' H' ?_ kk
  have z := inv_wipe I' vs
  rw [wipe_more hsub] at z
  exact z
def mkL (elt : Expr) (env : PySem.Env) (acc : Value) (k : Sem PySem.Fin) : Sem PySem.Fin := (eval elt env >>= fun x => call (.builtin "list.append") [acc, x] >>= fun _ => pure ()) >>= fun _ => k
def tAppend (te : TE) (D : Addr) : TB := fun σ H K => te σ H fun y H4 => ∃ acc, H4 D = some (.lst acc) ∧ acc.length < sizeLine ∧ K (upd H4 D (.lst (acc ++ [y])))
theorem pb_list {elt : Expr} {te : TE} {vs : List Nat} {D : Addr} (hxe : Xb.xe = fun _ _ => False) (he : PE Xb elt te) : PB Xb vs (mkL elt Xb.env (.ref D)) (tAppend te D) := by
  refine ⟨fun pins s σ H K k Q E I h hk => ?_⟩
  refine wpAny_bind (wpAny_bind (wpAny_mono (he.run pins s σ H _ I h) (fun u s1 ⟨y, H4, I4, r4, acc, hD, hz, q⟩ => ?_) fun _ _ z => by rw [hxe] at z; exact z.elim))
  exact wpAny_bind (app_ok I4 hD hz r4 fun s2 I5 => wpAny_pure (hk s2 _ (inv_wipe I5 vs) q))
def mkD (kx vx : Expr) (env : PySem.Env) (D : Addr) (k : Sem PySem.Fin) : Sem PySem.Fin :=
  (eval kx env >>= fun kv => holding [kv] (eval vx env) >>= fun vv => standAt { kx.pos with endLine := vx.pos.endLine, endCol := vx.pos.endCol } >>= fun _ => holding [kv, vv] (dictSet D kv vv)) >>= fun _ => k
def tStore (K' : KP) (tk tv : TE) (D : Addr) : TB := fun σ H K => tk σ H fun y H4 => tv σ H4 fun z H5 => DP K' H5 D y z K
theorem dp_dictSet {pins : List (Addr × Obj)} {σ : L2.St} {H : Hp} {s : Shared} {E : Value → Shared → Prop} {a : Addr} {y v : V} {u r : Value} {Q : Hp → Prop} {R : Unit → Shared → Prop} (hu : Xb.A.units + 1 < cLine) (I : Inv Xb pins σ H s) (g : DP (XK Xb) H a y v Q) (ry : RelV y u) (rv : RelV v r)
    (h : ∀ s' H', Inv Xb pins σ H' s' → Q H' → R () s') : wpAny (model Xb.prog Xb.w) Xb.A (dictSet a u r) R E s := by
  rcases g with ⟨kvs, k, e1, e2, e3, q⟩ | ⟨xs, ks, b, e1, ⟨kvs, qs⟩, rfl, e2, e3, q⟩
  · subst e2
    exact d_dictSet I e1 e3 ry rv fun s' I' => h s' _ I' q
  · cases (show u = Value.ref b from ry)
    obtain ⟨hz, hd, dd⟩ := td_dict I (.inl e1) qs
    refine wpAny_dictSet_heap (hsz := hz) (by show Xb.A.units < cLine; omega) (key_sq I e2) dd fun h' dd' hs => h _ _ ?_ (q r rv)
    obtain ⟨ob, es, ep, hq, h2, h3, h4, _, h5⟩ := dd'
    exact d_write I (by rw [e1]; exact True.intro) hs ⟨ob, hq⟩ (td_new ⟨Nat.le_trans storedH_len e3, hd, ob, es, ep, hq, h2, h3, h4, h5⟩)
theorem pb_dict {kx vx : Expr} {tk tv : TE} {vs : List Nat} {D : Addr} (hu : Xb.A.units + 1 < cLine) (hxe : Xb.xe = fun _ _ => False) (hk' : PE Xb kx tk) (hv : PE Xb vx tv) : PB Xb vs (mkD kx vx Xb.env D) (tStore (XK Xb) tk tv D) := by
  refine ⟨fun pins s σ H K k Q E I h hk => ?_⟩
  refine wpAny_bind (wpAny_bind (wpAny_mono (hk'.run pins s σ H _ I h) (fun u s1 ⟨y, H4, I4, r4, q4⟩ => ?_) fun _ _ z => by rw [hxe] at z; exact z.elim))
  refine wpAny_bind (wpAny_holding (wpAny_mono (hv.run pins s1 σ H4 _ I4 q4) (fun u2 s2 ⟨z, H5, I5, r5, q5⟩ => ?_) fun _ _ z => by rw [hxe] at z; exact z.elim))
  exact wpAny_bind (wpAny_standAt (wpAny_holding (dp_dictSet hu I5 q5 r4 r5 fun s3 H6 I6 q6 => hk s3 H6 (inv_wipe I6 vs) q6)))
end
end DL
namespace DL
open PySem PySem.Spec PyProof.Rows L2
/-- what a comprehension's expression is, to the machine -/
structure CF (C : Expr) (scope : Scope) (tg iter : Expr) (ifs : List Expr) (newAcc : Sem Value) : Prop where
  cl : ∃ gs, clausesOf C = ⟨tg, iter, ifs, 0⟩ :: gs
  und : ∀ (A : Around) (j : Nat) (it acc : Value) (env : PySem.Env), A.under (.compStart C j it acc env) = A ∧ A.under (.compLoop C j it acc env) = A ∧ (Code.compLoop C j it acc env).quiet = true
  den : ∀ (P : Program) (w : World) (j : Nat) (it acc : Value) (env : PySem.Env), (model P w).den (.compStart C j it acc env) = (compStart C j it acc env).onRaise (fun x => do noteFrame x env; standAt theWindowsPlace) ∧
    (model P w).den (.compLoop C j it acc env) = (compTurn C j it acc env).onRaise (fun x => do noteFrame x env; theTreesLotGoes x)
  ev : ∀ env, ∃ pos, eval C env = comprehension C scope env pos newAcc false (eval iter env)
  use : ∀ env, ∃ pos, ∀ u : Value → Sem Unit, evalThenUse C env u = (do let _ ← comprehension C scope env pos newAcc false (eval iter env) (some u))
theorem cf_list {elt tg iter : Expr} {ifs : List Expr} {gs : List Comprehension} {scope : Scope} {pos : Pos} : CF (.ListComp elt (⟨tg, iter, ifs, 0⟩ :: gs) scope pos) scope tg iter ifs (newList []) :=
  ⟨⟨gs, rfl⟩, fun A j it acc env => ⟨rfl, rfl, rfl⟩, fun P w j it acc env => ⟨rfl, rfl⟩, fun env => ⟨_, rfl⟩, fun env => ⟨_, fun u => rfl⟩⟩
theorem cf_dict {kx vx tg iter : Expr} {ifs : List Expr} {gs : List Comprehension} {scope : Scope} {pos : Pos} : CF (.DictComp kx vx (⟨tg, iter, ifs, 0⟩ :: gs) scope pos) scope tg iter ifs newDict :=
  ⟨⟨gs, rfl⟩, fun A j it acc env => ⟨rfl, rfl, rfl⟩, fun P w j it acc env => ⟨rfl, rfl⟩, fun env => ⟨_, rfl⟩, fun env => ⟨_, fun u => rfl⟩⟩
def tComp (o0 : Addr → HO) (wi : TI) (g : TG) (tt : TT) (t : Addr → TB) (vs : List Nat) : TE := fun σ H Q => wi σ H fun J H1 => ∀ D, H1 D = none → tLoop g tt (t D) vs J σ (upd H1 D (o0 D)) fun H' => Q (.ref D) H'
section
variable {X : Cx}
/-- how a new container comes -/
structure NewC (X : Cx) (newAcc : Sem Value) (o0 : Addr → HO) : Prop where
  ex : ∃ ob : Obj, ob.isFreed = false ∧ (∀ (A : Around) (s : Shared) (Q E : Value → Shared → Prop), Q (.ref s.heap.objs.size) { s with heap := s.heap.push ob } → wpAny (model X.prog X.w) A newAcc Q E s) ∧
    ∀ (H : Hp) (h : Heap), sysModules < h.objs.size → ObjOk X.prog X.w H (h.push ob) h.objs.size (o0 h.objs.size)
theorem new_list : NewC X (newList []) (fun _ => .lst []) := by
  refine ⟨{ cls := .type "list", data := .seq ([] : List Value).toArray }, rfl, fun A s Q E h => wpAny_newObj_type h (by show 0 ≤ sizeLine; decide), fun H h _ => ⟨Nat.zero_le _, [], 0, .nil, ?_⟩⟩
  exact Heap.get?_push_size _ rfl
theorem new_dK : NewC X newDict (fun _ => .dK []) :=
  ⟨{ cls := .type "dict", data := .dict #[] }, rfl, fun A s Q E h => wpAny_newObj_type h, fun H h hb => dk_empty h hb⟩
theorem td_empty {K : KP} (h : Heap) (hb : sysModules < h.objs.size) : TDok K h.objs.size [] (h.push { cls := .type "dict", data := .dict #[] }) :=
  ⟨Nat.zero_le _, beq_eq_false_iff_ne.mpr (Ne.symm (Nat.ne_of_lt hb)), _, #[], 0, Heap.get?_push_size _ rfl, ⟨rfl, rfl, rfl⟩, rfl, rfl, List.nodup_nil⟩
theorem new_dT {K : KP} : NewC X newDict (fun D => TD K D []) :=
  ⟨{ cls := .type "dict", data := .dict #[] }, rfl, fun A s Q E h => wpAny_newObj_type h, fun H h hb => td_new (td_empty h hb)⟩
theorem comp_core {C tg iter : Expr} {ifs : List Expr} {scope : Scope} {own : List (Str × Nat)} {newAcc : Sem Value} {o0 : Addr → HO} {wi : TI} {g : TG} {tt : TT} {t : Addr → TB} {mk : PySem.Env → Addr → Sem PySem.Fin → Sem PySem.Fin}
    {pins : List (Addr × Obj)} {s : Shared} {σ : L2.St} {H : Hp} {Q : VK} {pos' : Pos} {use : Option (Value → Sem Unit)} {Qf : Value → Shared → Prop}
    (cf : CF C scope tg iter ifs newAcc) (hnew : NewC X newAcc o0) (hc : X.calm = true) (hN : X.N.Nodup) (I : Inv X pins σ H s) (hi : PI X tg iter wi) (ok : BlkOk X.N X.env.scope scope own)
    (heq : ∀ (it acc : Value) (D : Addr) (env : PySem.Env), acc = .ref D → compTurn C 0 it acc env = turnOf tg iter ifs env it (mk env D) (again (.compLoop C 0 it acc env)))
    (hg : ∀ (s : Shared) (H : Hp) (C' : Addr) (cl : List (Str × Addr)) (fp : List Addr), PG (X.blk s H scope (compEnvC scope cl C' X.env) fp) tg g) (ht : ∀ (s : Shared) (H : Hp) (C' : Addr) (cl : List (Str × Addr)) (fp : List Addr), PTs (X.blk s H scope (compEnvC scope cl C' X.env) fp) ifs tt)
    (hm : ∀ (s : Shared) (H : Hp) (C' : Addr) (cl : List (Str × Addr)) (fp : List Addr) (D : Addr), PB (X.blk s H scope (compEnvC scope cl C' X.env) fp) (own.map (·.2)) (mk (compEnvC scope cl C' X.env) D) (t D)) (hs : ∀ x, foldedSetIterable iter X.env x = pure x)
    (h : tComp o0 wi g tt t (own.map (·.2)) σ H Q)
    (hRR : ∀ D C' s' m H', Inv X pins σ H' s' → Q (.ref D) H' → s'.heap.Ns C' m → FpOk X pins H' C' → compPost (model X.prog X.w) X.A X.xe use Qf (.ref D) C' (.ok .next) s') :
    wpAny (model X.prog X.w) X.A (comprehension C scope X.env pos' newAcc false (eval iter X.env) use) Qf X.xe s := by
  obtain ⟨gs, hcl⟩ := cf.cl
  obtain ⟨ob, hfr, hob1, hob2⟩ := hnew.ex
  have hfree : ∀ y ∈ scope.names, y.2 = .free → ∃ c, X.env.cells.lookup y.1 = some c := fun y hy e => (ok.free y hy e).elim (fun k => I.ok.has _ (.inl k)) fun k => I.ok.has _ (.inr k)
  refine wpAny_comprehension_free (use := use) hcl hs (closure_ok hfree) ok.kind (fun y hy e => by rw [ok.uniq y hy, e]) (thn (hi.run pins s σ H _ I h) fun xv s1 hx => thn hx fun itv s2 h2 => ?_)
  obtain ⟨it, fp, tn, J, H2, rfl, I2, T, st2, f2, q⟩ := h2
  refine hob1 X.A s2 _ _ (newEnv_comp ?_)
  generalize hD : s2.heap.objs.size = D
  have hDn : H2 D = none := I2.hok.fresh (Nat.le_of_eq hD)
  have q := q D hDn
  generalize hs3 : ({ s2 with heap := s2.heap.push ob } : Shared) = s3
  have h3 : s3.heap = s2.heap.push ob := by rw [← hs3]
  have I3 : Inv X pins σ (upd H2 D (o0 D)) s3 := by
    rw [← hs3, ← hD]
    exact I2.laid (t' := s2.toks) (fun b o e => Heap.get?_push_of_some _ e) (Nat.le_refl _) (hob2 _ s2.heap I2.big)
  have sz : ∀ b ∈ fp, b < s2.heap.objs.size := fun b hb => let ⟨o, e, _⟩ := T.obj _ _ st2 b hb; Heap.lt_size e
  have f3 : ∀ b ∈ fp, FpOk X pins (upd H2 D (o0 D)) b ∧ b < s3.heap.objs.size := fun b hb => by
    have hlt := sz b hb
    refine ⟨⟨?_, (f2 b hb).2⟩, by rw [h3, Heap.size_push]; exact Nat.lt_succ_of_lt hlt⟩
    rw [upd_ne (by rw [← hD]; exact Nat.ne_of_lt hlt)]
    exact (f2 b hb).1
  have I4 := block_start I3 ok hN f3
  have pg := hg s3 (upd H2 D (o0 D)) s3.heap.objs.size (cellsFrom (s3.heap.objs.size + 1) scope.names (cloFrom X.env.cells scope.names [])) fp
  have pt := ht s3 (upd H2 D (o0 D)) s3.heap.objs.size (cellsFrom (s3.heap.objs.size + 1) scope.names (cloFrom X.env.cells scope.names [])) fp
  have pm := hm s3 (upd H2 D (o0 D)) s3.heap.objs.size (cellsFrom (s3.heap.objs.size + 1) scope.names (cloFrom X.env.cells scope.names [])) fp D
  show codeAny _ _ (.compStart C 0 (.ref it) (.ref D) (compEnvC scope (cellsFrom (s3.heap.objs.size + 1) scope.names (cloFrom X.env.cells scope.names [])) s3.heap.objs.size X.env)) (compPost (model X.prog X.w) X.A X.xe use Qf (.ref D) s3.heap.objs.size) { s3 with heap := pushCells (s3.heap.push { cls := .type "dict", data := .dict #[] }) scope.names }
  generalize hce : compEnvC scope (cellsFrom (s3.heap.objs.size + 1) scope.names (cloFrom X.env.cells scope.names [])) s3.heap.objs.size X.env = ce at I4 pg pt pm ⊢
  have cL : ce.locals = s3.heap.objs.size := by subst hce; rfl
  generalize hs4 : ({ s3 with heap := pushCells (s3.heap.push { cls := .type "dict", data := .dict #[] }) scope.names } : Shared) = s4 at I4 ⊢
  have st4 : tn 0 s4.heap := T.keep _ _ _ st2 fun b _ o e => by
    rw [← hs4]
    exact pushCells_keeps _ _ _ _ (Heap.get?_push_of_some _ (by rw [h3]; exact Heap.get?_push_of_some _ e))
  have stat : ∀ b ∈ fp, FpOk (X.blk s3 (upd H2 D (o0 D)) scope ce fp) [] (upd H2 D (o0 D)) b := fun b hb =>
    ⟨(f3 b hb).1.1, (I4.ok.exf b hb).1, I4.ok.exfs b hb, .inl hb, fun x c e => (I4.ok.exf b hb).2 x c e, fun p hp => absurd (show p ∈ ([] : List (Addr × Obj)) ++ [] from hp) (by simp)⟩
  have e0 : (clausesOf C)[0]? = some ⟨tg, iter, ifs, 0⟩ := by rw [hcl]; rfl
  refine start_gen (Xb := X.blk s3 (upd H2 D (o0 D)) scope ce fp) e0 rfl (cf.und _ _ _ _ _).1 (cf.den _ _ _ _ _ _).1 (cf.und X.A _ _ _ _).2.2 T st4 ?_
  refine loop_gen (Xb := X.blk s3 (upd H2 D (o0 D)) scope ce fp) (vs := own.map (·.2)) (σ := σ) hc rfl (cf.und X.A _ _ _ _).2.2 (cf.und _ _ _ _ _).2.1 (cf.den _ _ _ _ _ _).2 (heq _ _ D _ rfl) T pg pt pm I4 st4 stat q fun s6 H6 I6 q6 => ?_
  have I7 : Inv X pins σ H6 s6 := I3.call' (ch := fp) I6.os I6.base I6.hok I6.bare fun b hb => ⟨(f3 b hb).1.2.2.2.1, (f3 b hb).1.2.1, (f3 b hb).1.2.2.2.2.1, (f3 b hb).1.2.2.2.2.2⟩
  have nC : H6 s3.heap.objs.size = none := by rw [← cL]; exact I6.free
  obtain ⟨m, hn, _⟩ := I6.loc
  have hn : s6.heap.Ns ce.locals m := hn
  rw [cL] at hn
  exact hRR D s3.heap.objs.size s6 m H6 I7 q6 hn (I3.fpOk (Nat.le_refl _) nC)
theorem pe_comp {C tg iter : Expr} {ifs : List Expr} {scope : Scope} {own : List (Str × Nat)} {newAcc : Sem Value} {o0 : Addr → HO} {wi : TI} {g : TG} {tt : TT} {t : Addr → TB} {mk : PySem.Env → Addr → Sem PySem.Fin → Sem PySem.Fin}
    (cf : CF C scope tg iter ifs newAcc) (hnew : NewC X newAcc o0) (hc : X.calm = true) (hN : X.N.Nodup) (hi : PI X tg iter wi) (ok : BlkOk X.N X.env.scope scope own)
    (heq : ∀ (it acc : Value) (D : Addr) (env : PySem.Env), acc = .ref D → compTurn C 0 it acc env = turnOf tg iter ifs env it (mk env D) (again (.compLoop C 0 it acc env)))
    (hg : ∀ (s : Shared) (H : Hp) (C' : Addr) (cl : List (Str × Addr)) (fp : List Addr), PG (X.blk s H scope (compEnvC scope cl C' X.env) fp) tg g) (ht : ∀ (s : Shared) (H : Hp) (C' : Addr) (cl : List (Str × Addr)) (fp : List Addr), PTs (X.blk s H scope (compEnvC scope cl C' X.env) fp) ifs tt)
    (hm : ∀ (s : Shared) (H : Hp) (C' : Addr) (cl : List (Str × Addr)) (fp : List Addr) (D : Addr), PB (X.blk s H scope (compEnvC scope cl C' X.env) fp) (own.map (·.2)) (mk (compEnvC scope cl C' X.env) D) (t D)) (hs : ∀ x, foldedSetIterable iter X.env x = pure x) :
    PE X C (tComp o0 wi g tt t (own.map (·.2))) ∧ ∀ (i : Nat) (y : Str) (py spos : Pos), X.N[i]? = some y → X.env.scope.names.lookup y = some .local → swapsWith C (some (.Name y py)) spos.line X.env = pure true → PS X (.Assign [.Name y py] C spos) (tAsg (tComp o0 wi g tt t (own.map (·.2))) (gName i)) := by
  refine ⟨⟨fun pins s σ H Q I h => ?_⟩, fun i y py spos hy hyl hsw => ⟨fun pins s σ H D I h => ?_⟩⟩
  · obtain ⟨pos, e⟩ := cf.ev X.env
    rw [e]
    refine comp_core cf hnew hc hN I hi ok heq hg ht hm hs h fun D C' s' m H' I' q hn f => ⟨m, hn, fun h'' sb => ?_⟩
    obtain ⟨f0, f1, f2, f3, f4, f5⟩ := f
    exact ⟨.ref D, H', I'.turned (t' := s'.toks) (fun b o hb e => (sb.2 b hb).trans e) f0 f1 f3 f4 f5, rfl, q⟩
  · rw [exec_Assign_Name_used _ _ _ _ hsw]
    refine wpAny_bind (wpAny_standAt (wpAny_bind ?_))
    obtain ⟨pos, e⟩ := cf.use X.env
    rw [e]
    have h : tComp o0 wi g tt t (own.map (·.2)) σ H (fun x H1 => gName i x σ H1 D.nx) := h
    refine wpAny_bind (thn (comp_core (Qf := fun _ s' => SP X pins D .next s') cf hnew hc hN I hi ok heq hg ht hm hs h fun L C' s' m H' I' q hn f => ?_) fun _ s' hq => wpAny_pure (wpAny_pure hq))
    show wpAny _ _ (assign (.Name y py) X.env (.ref L)) _ _ _
    refine wpAny_assign_Name (store_ok2 (v := V.ref L) I' hN hy (.inl hyl) rfl (fun s2 I2 ⟨a, sb, ha⟩ => ?_) (.inr hyl))
    obtain ⟨f0, f1, f2, f3, f4, f5⟩ := f
    have haC : C' ≠ a := by
      rcases ha with z | z
      · rw [z]; exact f1
      · exact fun e => f4 y a z e.symm
    refine ⟨m, hn.sameBut sb haC, fun h3 sb3 => ?_⟩
    exact ⟨_, H', I2.turned (t' := s2.toks) (fun b o hb e => (sb3.2 b hb).trans e) f0 f1 f3 f4 f5, q⟩
end
end DL
namespace DL
open PySem PySem.Spec PyProof.Rows L2
/-- a container that a comprehension fills -/
structure Box (K : KP) (α β : Type) where
  rel : Addr → Wd → HO → α → Prop
  live : ∀ {D W ho a}, rel D W ho a → HO.live ho = true
  mono : ∀ {D W W' ho a}, Le0 K W W' → rel D W ho a → rel D W' ho a
  step : α → β → Option α
def foldO {α β : Type} (f : α → β → Option α) : α → List β → Option α
  | a, [] => some a
  | a, y :: ys => (f a y).bind fun a' => foldO f a' ys
theorem foldO_app {α β : Type} {f : α → β → Option α} : ∀ {ys zs : List β} {a c : α}, foldO f a (ys ++ zs) = some c → ∃ b, foldO f a ys = some b ∧ foldO f b zs = some c
  | [], zs, a, c, h => ⟨a, rfl, h⟩
  | y :: ys, zs, a, c, h => by
    rw [List.cons_append, foldO] at h
    rw [foldO]
    cases e : f a y with
    | none => rw [e] at h; cases h
    | some a' => rw [e] at h; exact foldO_app h
structure Cs {α β : Type} (K : KP) (B : Box K α β) (W1 : Wd) (D : Addr) (W2 : Wd) (a : α) : Prop where
  le : Le K W1 W2
  ok : Ok K W2
  pv : D ∈ W2.pv
  at' : ∃ ho, W2.H D = some ho ∧ B.rel D W2 ho a
section
variable {α β : Type} {K : KP} {B : Box K α β} {W1 W2 W3 : Wd} {D : Addr} {a : α}
theorem Cs.mono (c : Cs K B W1 D W2 a) (l : Le K W2 W3) (k : Ok K W3) : Cs K B W1 D W3 a :=
  ⟨c.le.trans l, k, (l.x D c.pv).1, let ⟨ho, h1, h2⟩ := c.at'; ⟨ho, (l.x D c.pv).2.trans h1, B.mono l.zero h2⟩⟩
theorem Cs.write (c : Cs K B W1 D W2 a) (np : D ∉ W1.pv) {o : HO} {a' : α} (h : B.rel D W2 o a') : Cs K B W1 D (W2.wr D o) a' ∧ LeZ K W2 (W2.wr D o) := by
  obtain ⟨ho, e, r⟩ := c.at'
  have hu := B.live r
  have z := le0_wr (o := o) c.ok c.pv e hu
  refine ⟨⟨le_wr c.le c.ok c.pv np e hu, c.ok.wr c.pv e hu, c.pv, o, upd_same, B.mono z h⟩, z.β, z.t, z.l, z.k, z.kt, fun b ob v q => ?_⟩
  show upd W2.H D o b = _
  rw [upd_ne fun q' => by rw [q', e] at q; cases q; cases hu]
  exact q
end
section
variable {S : SC} {α β : Type}
/-- a body that adds what f says -/
def SemB (S : SC) (B : Box S.K α β) (t : Addr → TB) (f : En → Mo (List β)) : Prop := ∀ (D : Addr) (W1 W2 : Wd) (a a' : α) (σ : L2.St) (ρ : En) (Kt : Hp → Prop) (ys : List β) (M' : Mem), Cs S.K B W1 D W2 a → D ∉ W1.pv → StR S.K W2 σ ρ → f ρ W2.M = some (.ok ys, M') → foldO B.step a ys = some a' →
  (∀ W3, Cs S.K B W1 D W3 a' → W3.M = M' → LeZ S.K W2 W3 → Kt W3.H) → t D σ W2.H Kt
theorem StR.monoZ {K : KP} {W W' : Wd} {σ : L2.St} {ρ : En} (h : StR K W σ ρ) (z : LeZ K W W') : StR K W' σ ρ := ⟨h.1, fun i d q => let ⟨v, h1, h2⟩ := h.2 i d q; ⟨v, h1, h2.mono0 z.zero⟩⟩
theorem loop_sem {S : SC} {B : Box S.K α β} {g : TG} {tt : TT} {t : Addr → TB} {h : DL.D → En → Mo En} {c : En → Mo Bool} {f : En → Mo (List β)} {vs : List Nat} (hg : SemGv S vs g h) (ht : SemT S tt c) (hb : SemB S B t f)
    {D : Addr} {W1 W2 : Wd} {it : Itd'} {J : It} {a a' : α} {σ : L2.St} {ρ : En} {Kt : Hp → Prop} {ys : List β} {M' : Mem} (cs : Cs S.K B W1 D W2 a) (np : D ∉ W1.pv) (st : StR S.K W2 σ ρ) (hJ : ∀ W3, LeZ S.K W2 W3 → Ok S.K W3 → gdOk it.gd W3.M →
      (∀ i, i < it.items.length → J.go i W3.H ∧ ∀ x H', J.yld i W3.H x H' → ∃ W4, Le S.K W3 W4 ∧ Ok S.K W4 ∧ W4.M = W3.M ∧ W4.H = H' ∧ ∃ d, it.items[i]? = some d ∧ Rp S.K W4 x d) ∧ J.stop it.items.length W3.H)
    (hl : compL it.gd (turn1 (wipeR ρ vs) h c f) it.items W2.M = some (.ok ys, M')) (hf : foldO B.step a ys = some a') (hK : ∀ W3, Cs S.K B W1 D W3 a' → W3.M = M' → LeZ S.K W2 W3 → Kt W3.H) : tLoop g tt (t D) vs J σ W2.H Kt := by
  refine ⟨fun i m H' => m = it.items.length - i ∧ i ≤ it.items.length ∧ ∃ W3 b zs, Cs S.K B W1 D W3 b ∧ LeZ S.K W2 W3 ∧ W3.H = H' ∧ compL it.gd (turn1 (wipeR ρ vs) h c f) (it.items.drop i) W3.M = some (.ok zs, M') ∧ foldO B.step b zs = some a',
    ⟨_, rfl, Nat.zero_le _, W2, a, ys, cs, (Le.refl _ _).toZ, rfl, hl, hf⟩, ?_⟩
  rintro i m H' ⟨rfl, hi, W3, b, zs, c3, z3, rfl, hc, hfo⟩
  by_cases hlt : i < it.items.length
  · rw [List.drop_eq_getElem_cons hlt] at hc
    obtain ⟨hgd, us, M3, ts, hturn, hrest, rfl⟩ := compL_cons hc
    obtain ⟨go, yl⟩ := (hJ W3 z3 c3.ok hgd).1 i hlt
    obtain ⟨b', hf1, hf2⟩ := foldO_app hfo
    refine .inr ⟨go, fun H3 => ∃ W4, Cs S.K B W1 D W4 b' ∧ LeZ S.K W2 W4 ∧ W4.H = H3 ∧ W4.M = M3, ?_, ?_⟩
    · rintro H3 ⟨W4, a1, a2, a3, a4⟩
      exact ⟨_, by omega, rfl, hlt, W4, b', ts, a1, a2, a3, by rw [a4]; exact hrest, hf2⟩
    · intro x H' hy
      obtain ⟨W4, l4, k4, m4, rfl, d, hd, rd⟩ := yl x H' hy
      have hd' : d = it.items[i] := by
        rw [List.getElem?_eq_getElem hlt] at hd
        exact (Option.some.inj hd).symm
      subst hd'
      obtain ⟨ρ1, M5, b1, M6, q1, q2, q3⟩ := turn1_ok hturn
      rw [← m4] at q1
      have z4 := z3.trans l4.toZ
      have c4 := c3.mono l4 k4
      refine hg W4 _ _ x _ _ k4 ((st.monoZ z4).wipe _) rd (post0_of q1 fun W5 l5 k5 m5 σ5 st5 hw => ⟨hw.trans (wipe_ext (wipe_length _ _) fun j hj => wipe_out hj), ?_⟩)
      rw [← m5] at q2
      refine ht W5 σ5 ρ1 _ k5 st5 (post_of q2 fun W6 l6 k6 m6 => ?_)
      have z6 := (z4.trans l5.toZ).trans l6.toZ
      have c6 := (c4.mono l5 k5).mono l6 k6
      rcases q3 with ⟨rfl, q3⟩ | ⟨rfl, rfl, rfl⟩
      · rw [if_pos rfl]
        rw [← m6] at q3
        exact hb D W1 W6 b b' σ5 ρ1 _ us M3 c6 np (st5.mono l6) q3 hf1 fun W7 c7 m7 z7 => ⟨W7, c7, z6.trans z7, rfl, m7⟩
      · cases hf1
        exact ⟨W6, c6, z6, rfl, m6⟩
  · have e : i = it.items.length := by omega
    subst e
    rw [List.drop_length] at hc
    obtain ⟨hgd, rfl, rfl⟩ := compL_nil hc
    cases hfo
    exact .inl ⟨(hJ W3 z3 c3.ok hgd).2, hK W3 c3 rfl z3⟩
/-- a clause within, as a body -/
noncomputable def inF (f1 : En → Mo Itd') (vs : List Nat) (h : DL.D → En → Mo En) (c : En → Mo Bool) (f : En → Mo (List β)) (ρ : En) : Mo (List β) := .bnd (f1 ρ) fun it => compL it.gd (turn1 (wipeR ρ vs) h c f) it.items
theorem semb_in {B : Box S.K α β} {wi : TI} {g : TG} {tt : TT} {t : Addr → TB} {h : DL.D → En → Mo En} {c : En → Mo Bool} {f : En → Mo (List β)} {f1 : En → Mo Itd'} {vs : List Nat} (hi : SemI S wi f1) (hg : SemGv S vs g h) (ht : SemT S tt c) (hb : SemB S B t f) :
    SemB S B (fun D => tIn wi g tt (t D) vs) (inF f1 vs h c f) := by
  intro D W1 W2 a a' σ ρ Kt ys M' cs np st hf hfo hK
  obtain ⟨it, M3, q1, q2⟩ := bnd_ok hf
  refine hi W2 σ ρ _ cs.ok st (post_of q1 fun W3 l3 k3 m3 J hJ => ?_)
  rw [← m3] at q2
  exact loop_sem hg ht hb (cs.mono l3 k3) np (st.mono l3) hJ.2 q2 hfo fun W4 c4 m4 z4 => hK W4 c4 m4 (l3.toZ.trans z4)
def boxL (K : KP) : Box K (List DL.D) DL.D where
  rel := fun _ W ho l => ∃ xs, ho = .lst xs ∧ RpA K W xs l
  live := fun ⟨_, e, _⟩ => by rw [e]; rfl
  mono := fun z ⟨xs, e, r⟩ => ⟨xs, e, r.mono0 z⟩
  step := fun l y => if l.length < sizeLine then some (l ++ [y]) else none
theorem semb_list {te : TE} {e : En → Mo DL.D} (he : SemE S te e) : SemB S (boxL S.K) (tAppend te) (one' e) := by
  intro D W1 W2 a a' σ ρ Kt ys M' cs np st hf hfo hK
  obtain ⟨y, M3, q1, q2⟩ := bnd_ok (m := e ρ) hf
  obtain ⟨rfl, rfl⟩ := ret_ok q2
  refine he W2 σ ρ _ cs.ok st (post_of q1 fun W3 l3 k3 m3 v rv => ?_)
  have c3 := cs.mono l3 k3
  obtain ⟨ho, e1, xs, rfl, r⟩ := c3.at'
  have hs : (if a.length < sizeLine then some (a ++ [y]) else none) = some a' := by
    have z : ((if a.length < sizeLine then some (a ++ [y]) else none).bind fun x => foldO (boxL S.K).step x []) = some a' := hfo
    split at z
    · rename_i q; rw [if_pos q]; exact z
    · cases z
  split at hs
  · rename_i hlt
    cases hs
    refine ⟨xs, e1, by rw [r.length]; exact hlt, ?_⟩
    obtain ⟨c4, z4⟩ := c3.write np (o := .lst (xs ++ [v])) (a' := a ++ [y]) ⟨_, rfl, r.append (.one rv)⟩
    exact hK _ c4 m3 (l3.toZ.trans z4)
  · cases hs
def boxD (K : KP) (t : Bool) : Box K (List (DL.D × DL.D)) (DL.D × DL.D) where
  rel := fun D W ho l => match t with
    | false => ∃ kvs, ho = .dK kvs ∧ RpK K W kvs l
    | true => ∃ xs kvs, ho = TD K D xs ∧ KS K.K W.H xs kvs ∧ RpT K W kvs l
  live := by
    cases t
    · exact fun ⟨_, e, _⟩ => by rw [e]; rfl
    · exact fun ⟨_, _, e, _⟩ => by rw [e]; rfl
  mono := by
    cases t
    · exact fun z ⟨kvs, e, r⟩ => ⟨kvs, e, r.mono0 z⟩
    · exact fun z ⟨xs, kvs, e, q, r⟩ => ⟨xs, kvs, e, q.mono z.t, r.mono0 z⟩
  step := fun l y => if l.length < sizeLine then putB t l y.1 y.2 else none
def two' (ek ev : En → Mo DL.D) (ρ : En) : Mo (List (DL.D × DL.D)) := .bnd (ek ρ) fun k => .bnd (ev ρ) fun v => .ret [(k, v)]
theorem semb_dict {t : Bool} {tk tv : TE} {ek ev : En → Mo DL.D} (hk : SemE S tk ek) (hv : SemE S tv ev) : SemB S (boxD S.K t) (tStore S.K tk tv) (two' ek ev) := by
  intro D W1 W2 a a' σ ρ Kt ys M' cs np st hf hfo hK
  obtain ⟨k, M3, q1, q1'⟩ := bnd_ok (m := ek ρ) hf
  obtain ⟨v, M4, q2, q3⟩ := bnd_ok (m := ev ρ) q1'
  clear q1'
  obtain ⟨rfl, rfl⟩ := ret_ok q3
  refine hk W2 σ ρ _ cs.ok st (post_of q1 fun W3 l3 k3 m3 ku rk => ?_)
  rw [← m3] at q2
  refine hv W3 σ ρ _ k3 (st.mono l3) (post_of q2 fun W4 l4 k4 m4 vu rv => ?_)
  have c4 := (cs.mono l3 k3).mono l4 k4
  have rk := rk.mono l4
  have hs : (if a.length < sizeLine then putB t a k v else none) = some a' := by
    have z : ((if a.length < sizeLine then putB t a k v else none).bind fun x => foldO (boxD S.K t).step x []) = some a' := hfo
    cases e : (if a.length < sizeLine then putB t a k v else none) with
    | none => rw [e] at z; cases z
    | some b => rw [e] at z; exact z
  split at hs
  · rename_i hlt
    have z34 := l3.toZ.trans l4.toZ
    obtain ⟨ho, e1, r⟩ := c4.at'
    cases t
    · obtain ⟨kvs, rfl, r⟩ := r
      obtain ⟨kk, hkk, e⟩ := Option.map_eq_some_iff.mp (show (toK k).map (fun q => putG toK a q k v) = some a' from hs)
      subst e
      obtain ⟨e2, e3⟩ := toK_run rk hkk
      subst e3
      obtain ⟨c5, z5⟩ := c4.write np (o := .dK (putK kvs kk vu)) (a' := putG toK a kk (kD kk) v) ⟨_, rfl, putG_k r rv⟩
      exact .inl ⟨kvs, kk, e1, e2, by rw [rpk_len r]; exact hlt, hK _ c5 m4 (z34.trans z5)⟩
    · obtain ⟨xs, kvs, rfl, q, r⟩ := r
      obtain ⟨kk, hkk, e⟩ := Option.map_eq_some_iff.mp (show (toKT k).map (fun q => putG toKT a q k v) = some a' from hs)
      subst e
      obtain ⟨e2, b, e3, e4⟩ := toKT_run rk hkk
      subst e2
      refine .inr ⟨xs, kk, b, e1, ⟨kvs, q⟩, e3, e4, by rw [q.length, rpt_len r]; exact hlt, fun ru hr => ?_⟩
      obtain ⟨kvs', g1, g2⟩ := putG_t q r e4 hr rv
      obtain ⟨c5, z5⟩ := c4.write np (o := TD S.K D (storedH xs kk b ru)) (a' := putG toKT a kk (ktD kk) v) ⟨_, kvs', rfl, g1, g2⟩
      exact hK _ c5 m4 (z34.trans z5)
  · cases hs

/-- the tree and the object of a full box -/
structure BoxV (K : KP) {α β : Type} (B : Box K α β) (tr : α → DL.D) (ob : α → O) : Prop where
  frz : ∀ {D W ho a}, B.rel D W ho a → W.H D = some ho → W.frz D → Rp K W (.ref D) (tr a)
  cur : ∀ {D W ho a}, B.rel D W ho a → W.H D = some ho → OOk K W D (ob a)
theorem boxv_list {K : KP} : BoxV K (boxL K) .lst .lst := ⟨fun ⟨_, e, r⟩ h f => .lst (.inl (by rw [h, e])) f r, fun ⟨xs, e, r⟩ h => ⟨xs, by rw [h, e], r⟩⟩
theorem boxv_dict {K : KP} (t : Bool) : BoxV K (boxD K t) (.dct t) (.dct t) := by
  cases t
  · exact ⟨fun ⟨_, e, r⟩ h f => .dK (.inl (by rw [h, e])) f r, fun ⟨xs, e, r⟩ h => ⟨xs, by rw [h, e], r⟩⟩
  · exact ⟨fun ⟨_, _, e, q, r⟩ h f => .dT (.inl (by rw [h, e])) f q r, fun ⟨xs, kvs, e, q, r⟩ h => ⟨xs, kvs, by rw [h, e], q, r⟩⟩
def finVO (md : Bool) (d : DL.D) (M : Mem) : DL.D := cond md (.ref M.length) d
def finMO (md : Bool) (o : O) (M : Mem) : Mem := cond md (M ++ [o]) M
def finDO (md : Bool) (d : DL.D) (o : O) : Mo DL.D := fun M => some (.ok (finVO md d M), finMO md o M)
theorem Cs.finish {α β : Type} {K : KP} {B : Box K α β} {tr : α → DL.D} {ob : α → O} {W1 W2 : Wd} {D : Addr} {a : α} (V : BoxV K B tr ob) (md : Bool) (c : Cs K B W1 D W2 a) (np : D ∉ W1.pv) :
    ∃ W3 : Wd, W3.H = W2.H ∧ W3.M = finMO md (ob a) W2.M ∧ Le K W1 W3 ∧ Ok K W3 ∧ Rp K W3 (.ref D) (finVO md (tr a) W2.M) := by
  obtain ⟨ho, e, r⟩ := c.at'
  cases md with
  | false => exact ⟨W2.unpv W1.pv, rfl, rfl, le_unpv c.le, c.ok.unpv c.le, V.frz (B.mono (le0_unpv c.le) r) e ⟨fun n h => absurd (List.mem_of_getElem? h) (c.ok.pn D c.pv), np⟩⟩
  | true =>
    have z := le0_pub (o := ob a) c.ok c.le c.pv
    refine ⟨W2.pub W1.pv D (ob a), rfl, rfl, le_pub c.ok c.le c.pv, c.ok.pub c.le c.pv np (V.cur (B.mono z r) e), .ref ?_⟩
    show (W2.β ++ [D])[W2.M.length]? = some D
    rw [← c.ok.len]
    simp
/-- the value of a comprehension whose items are m's -/
def cmpD {α β : Type} (md : Bool) (st : α → β → Option α) (a0 : α) (tr : α → DL.D) (ob : α → O) (m : Mo (List β)) : Mo DL.D := .bnd m.ne fun ys => match foldO st a0 ys with
  | some a => finDO md (tr a) (ob a)
  | none => .stuck
theorem cmpD_inv {α β : Type} {S : SC} {W : Wd} {σ : L2.St} {md : Bool} {st : α → β → Option α} {a0 : α} {tr : α → DL.D} {ob : α → O} {m : Mo (List β)} {Q : VK} (h : Post S W σ (cmpD md st a0 tr ob m W.M) (PV S Q)) :
    ∃ ys M' a, m W.M = some (.ok ys, M') ∧ foldO st a0 ys = some a ∧ ∀ W', Le S.K W W' → Ok S.K W' → W'.M = finMO md (ob a) M' → PV S Q (finVO md (tr a) M') W' := by
  unfold cmpD Mo.bnd Mo.ne at h
  cases e : m W.M with
  | none => simp only [e] at h; exact h.elim
  | some p =>
    obtain ⟨r, M1⟩ := p
    cases r with
    | error x => simp only [e] at h; exact h.elim
    | ok ys =>
      simp only [e] at h
      cases hb : foldO st a0 ys with
      | none => rw [hb] at h; exact h.elim
      | some a => rw [hb] at h; exact ⟨ys, M1, a, rfl, hb, h⟩
/-- a body of the block's: its reading and what it says -/
structure BY (S : SC) {α β : Type} (scope : Scope) (B : Box S.K α β) (vs : List Nat) (mk : PySem.Env → Addr → Sem PySem.Fin → Sem PySem.Fin) (f : En → Mo (List β)) : Prop where
  ex : ∃ t : Addr → TB, (∀ X, InC (S.blk scope) X → X.xe = (fun _ _ => False) → ∀ D, PB X vs (mk X.env D) (t D)) ∧ SemB (S.blk scope) B t f
theorem by_list {S : SC} {scope : Scope} {elt : Expr} {e : En → Mo DL.D} {vs : List Nat} (he : EX (S.blk scope) elt e) : BY S scope (boxL S.K) vs (fun env D => mkL elt env (.ref D)) (one' e) := by
  obtain ⟨te, e1, e2⟩ := he.ex
  exact ⟨tAppend te, fun X c hx D => pb_list hx (e1 X c), semb_list e2⟩
theorem by_dict {S : SC} {scope : Scope} (t : Bool) {kx vx : Expr} {ek ev : En → Mo DL.D} {vs : List Nat} (hk : EX (S.blk scope) kx ek) (hv : EX (S.blk scope) vx ev) : BY S scope (boxD S.K t) vs (fun env D => mkD kx vx env D) (two' ek ev) := by
  obtain ⟨tk, k1, k2⟩ := hk.ex
  obtain ⟨tv, v1, v2⟩ := hv.ex
  refine ⟨tStore S.K tk tv, fun X c hx D => ?_, semb_dict k2 v2⟩
  have z := pb_dict (vs := vs) (D := D) (by have := hu_of' c; omega) hx (k1 X c) (v1 X c)
  unfold XK at z
  rw [c.P, c.w, c.K] at z
  exact z
theorem by_in {S : SC} {α β : Type} {scope : Scope} {B : Box S.K α β} {C tg iter : Expr} {ifs : List Expr} {vs ws : List Nat} {j : Nat} {cl : Comprehension} {mk : PySem.Env → Addr → Sem PySem.Fin → Sem PySem.Fin} {f : En → Mo (List β)} {f1 : En → Mo Itd'} {h : DL.D → En → Mo En} {c' : En → Mo Bool} {tg0 iter0 : Expr} {ifs0 : List Expr} {na : Sem Value}
    (cf : CF C scope tg0 iter0 ifs0 na) (hsub : ∀ i ∈ ws, i ∈ vs) (hcl : (clausesOf C)[j]? = some cl) (ha : cl.is_async = 0) (heq : ∀ (it : Value) (D : Addr) (env : PySem.Env), compTurn C j it (.ref D) env = turnOf tg iter ifs env it (mk env D) (again (.compLoop C j it (.ref D) env)))
    (hi : IX (S.blk scope) tg iter f1) (hg : GV (S.blk scope) ws tg h) (ht : TXs (S.blk scope) ifs c') (hb : BY S scope B ws mk f) (hs : ∀ (env : PySem.Env) x, foldedSetIterable iter env x = pure x := by intro _ _; rfl) :
    BY S scope B vs (fun env D => mkIn C j iter env (.ref D)) (inF f1 ws h c' f) := by
  obtain ⟨wi, i1, i2⟩ := hi.ex
  obtain ⟨g, g1, g2⟩ := hg.ex
  obtain ⟨tt, t1, t2⟩ := ht.ex
  obtain ⟨t, b1, b2⟩ := hb.ex
  refine ⟨_, fun X c hx D => pb_in hsub c.calm hx hcl ha (fun it => ⟨(cf.und _ _ _ _ _).1, (cf.und _ _ _ _ _).2.1, (cf.und X.A _ _ _ _).2.2⟩) (fun it => cf.den _ _ _ _ _ _) (fun it => heq it D X.env) (i1 X c) (g1 X c) (t1 X c) (b1 X c hx D) (hs X.env), semb_in i2 g2 t2 b2⟩
theorem lx_comp {S : SC} {α β : Type} {scope : Scope} (own : List (Str × Nat)) {B : Box S.K α β} {tr : α → DL.D} {ob : α → O} {a0 : α} {o0 : Addr → HO} {C tg iter : Expr} {ifs : List Expr} {mk : PySem.Env → Addr → Sem PySem.Fin → Sem PySem.Fin} {f : En → Mo (List β)} {f1 : En → Mo Itd'} {h : DL.D → En → Mo En} {c' : En → Mo Bool} {na : Sem Value} (md : Bool)
    (V : BoxV S.K B tr ob) (cf : CF C scope tg iter ifs na) (hnew : ∀ X, InC S X → NewC X na o0) (hB0 : ∀ D W, W.H D = some (o0 D) → B.rel D W (o0 D) a0) (hN : S.N.Nodup) (ok : BlkOk S.N S.sc scope own)
    (heq : ∀ (it : Value) (D : Addr) (env : PySem.Env), compTurn C 0 it (.ref D) env = turnOf tg iter ifs env it (mk env D) (again (.compLoop C 0 it (.ref D) env)))
    (hi : IX S tg iter f1) (hg : GV (S.blk scope) (own.map (·.2)) tg h) (ht : TXs (S.blk scope) ifs c') (hb : BY S scope B (own.map (·.2)) mk f) (hs : ∀ (env : PySem.Env) x, foldedSetIterable iter env x = pure x := by intro _ _; rfl) :
    LX S C (fun ρ => .bnd (f1 ρ) fun it => cmpD md B.step a0 tr ob (compL it.gd (turn1 (wipeR ρ (own.map (·.2))) h c' f) it.items)) := by
  obtain ⟨wi, i1, i2⟩ := hi.ex
  obtain ⟨g, g1, g2⟩ := hg.ex
  obtain ⟨tt, t1, t2⟩ := ht.ex
  obtain ⟨t, b1, b2⟩ := hb.ex
  have key := fun X (c : InC S X) => pe_comp (o0 := o0) (own := own) cf (hnew X c) c.calm (by rw [c.N]; exact hN) (i1 X c) (by rw [c.N, c.sc]; exact ok) (fun it acc D env e => by subst e; exact heq it D env) (fun s H C' cl fp => g1 _ (c.blk scope s H C' cl fp)) (fun s H C' cl fp => t1 _ (c.blk scope s H C' cl fp)) (fun s H C' cl fp D => b1 _ (c.blk scope s H C' cl fp) rfl D) (hs X.env)
  refine ⟨tComp o0 wi g tt t (own.map (·.2)), fun W σ ρ Q k st hh => ?_, fun X c => (key X c).1, fun X c => (key X c).2⟩
  refine i2 W σ ρ _ k st (Post.imp (Post.bnd hh) fun it W1 l1 k1 q J hJ D hD => ?_)
  obtain ⟨ys, M', a, hl, hfo, q⟩ := cmpD_inv q
  have np := k1.nopv hD
  have le := le_priv (o := o0 D) k1 hD
  have c0 : Cs S.K B W1 D (W1.priv D (o0 D)) a0 := ⟨le, k1.priv hD, List.mem_cons_self, o0 D, upd_same, hB0 D _ upd_same⟩
  refine loop_sem (S := S.blk scope) (W2 := W1.priv D (o0 D)) g2 t2 b2 c0 np ((st.mono l1).mono le) (fun W3 z3 k3 hgd => hJ.2 W3 (le.toZ.trans z3) k3 hgd) hl hfo fun W3 c3 m3 z3 => ?_
  obtain ⟨W4, w1, w2, w3, w4, w5⟩ := c3.finish V md np
  rw [← w1]
  exact q W4 w3 w4 (by rw [w2, m3]) _ (by rw [← m3]; exact w5)
end
end DL
namespace DL
open PySem PySem.Spec PyProof.Rows L2
section
variable {S : SC}
theorem lx_l1 (md : Bool) (own : List (Str × Nat)) {elt tg iter : Expr} {ifs : List Expr} {scope : Scope} {pos : Pos} {f : En → Mo Itd'} {h : DL.D → En → Mo En} {c : En → Mo Bool} {e : En → Mo DL.D} (hN : S.N.Nodup) (ok : BlkOk S.N S.sc scope own)
    (hi : IX S tg iter f) (hg : GV (S.blk scope) (own.map (·.2)) tg h) (ht : TXs (S.blk scope) ifs c) (he : EX (S.blk scope) elt e) (hs : ∀ (env : PySem.Env) x, foldedSetIterable iter env x = pure x := by intro _ _; rfl) :
    LX S (.ListComp elt [⟨tg, iter, ifs, 0⟩] scope pos) (fun ρ => .bnd (f ρ) fun it => cmpD md (boxL S.K).step [] .lst .lst (compL it.gd (turn1 (wipeR ρ (own.map (·.2))) h c (one' e)) it.items)) :=
  lx_comp own md boxv_list cf_list (fun _ _ => new_list) (fun _ _ _ => ⟨[], rfl, .nil⟩) hN ok (mk := fun env D => mkL elt env (.ref D)) (by intro _ _ _; rfl) hi hg ht (by_list he) hs
theorem lx_l2 (md : Bool) (own : List (Str × Nat)) (ws : List Nat) {elt tg iter tg1 iter1 : Expr} {ifs ifs1 : List Expr} {scope : Scope} {pos : Pos} {f f1 : En → Mo Itd'} {h h1 : DL.D → En → Mo En} {c c1 : En → Mo Bool} {e : En → Mo DL.D} (hN : S.N.Nodup) (ok : BlkOk S.N S.sc scope own) (hsub : ∀ i ∈ ws, i ∈ own.map (·.2))
    (hi : IX S tg iter f) (hg : GV (S.blk scope) (own.map (·.2)) tg h) (ht : TXs (S.blk scope) ifs c) (hi1 : IX (S.blk scope) tg1 iter1 f1) (hg1 : GV (S.blk scope) ws tg1 h1) (ht1 : TXs (S.blk scope) ifs1 c1) (he : EX (S.blk scope) elt e)
    (hs : ∀ (env : PySem.Env) x, foldedSetIterable iter env x = pure x := by intro _ _; rfl) (hs1 : ∀ (env : PySem.Env) x, foldedSetIterable iter1 env x = pure x := by intro _ _; rfl) :
    LX S (.ListComp elt [⟨tg, iter, ifs, 0⟩, ⟨tg1, iter1, ifs1, 0⟩] scope pos) (fun ρ => .bnd (f ρ) fun it => cmpD md (boxL S.K).step [] .lst .lst (compL it.gd (turn1 (wipeR ρ (own.map (·.2))) h c (inF f1 ws h1 c1 (one' e))) it.items)) :=
  lx_comp own md boxv_list cf_list (fun _ _ => new_list) (fun _ _ _ => ⟨[], rfl, .nil⟩) hN ok (mk := fun env D => mkIn (.ListComp elt [⟨tg, iter, ifs, 0⟩, ⟨tg1, iter1, ifs1, 0⟩] scope pos) 1 iter1 env (.ref D)) (by intro _ _ _; rfl) hi hg ht
    (by_in (mk := fun env D => mkL elt env (.ref D)) cf_list hsub rfl rfl (by intro _ _ _; rfl) hi1 hg1 ht1 (by_list he) hs1) hs
theorem lx_d1 (md t : Bool) (own : List (Str × Nat)) {kx vx tg iter : Expr} {ifs : List Expr} {scope : Scope} {pos : Pos} {f : En → Mo Itd'} {h : DL.D → En → Mo En} {c : En → Mo Bool} {ek ev : En → Mo DL.D} (hN : S.N.Nodup) (ok : BlkOk S.N S.sc scope own)
    (hi : IX S tg iter f) (hg : GV (S.blk scope) (own.map (·.2)) tg h) (ht : TXs (S.blk scope) ifs c) (hk : EX (S.blk scope) kx ek) (hv : EX (S.blk scope) vx ev) (hs : ∀ (env : PySem.Env) x, foldedSetIterable iter env x = pure x := by intro _ _; rfl) :
    LX S (.DictComp kx vx [⟨tg, iter, ifs, 0⟩] scope pos) (fun ρ => .bnd (f ρ) fun it => cmpD md (boxD S.K t).step [] (.dct t) (.dct t) (compL it.gd (turn1 (wipeR ρ (own.map (·.2))) h c (two' ek ev)) it.items)) := by
  cases t
  · exact lx_comp (o0 := fun _ => .dK []) own md (boxv_dict false) cf_dict (fun _ _ => new_dK) (fun _ _ _ => ⟨[], rfl, .nil⟩) hN ok (mk := fun env D => mkD kx vx env D) (by intro _ _ _; rfl) hi hg ht (by_dict false hk hv) hs
  · exact lx_comp (o0 := fun D => TD S.K D []) own md (boxv_dict true) cf_dict (fun _ _ => new_dT) (fun _ _ _ => ⟨[], [], rfl, .nil, .nil⟩) hN ok (mk := fun env D => mkD kx vx env D) (by intro _ _ _; rfl) hi hg ht (by_dict true hk hv) hs
theorem lx_d2 (md t : Bool) (own : List (Str × Nat)) (ws : List Nat) {kx vx tg iter tg1 iter1 : Expr} {ifs ifs1 : List Expr} {scope : Scope} {pos : Pos} {f f1 : En → Mo Itd'} {h h1 : DL.D → En → Mo En} {c c1 : En → Mo Bool} {ek ev : En → Mo DL.D} (hN : S.N.Nodup) (ok : BlkOk S.N S.sc scope own) (hsub : ∀ i ∈ ws, i ∈ own.map (·.2))
    (hi : IX S tg iter f) (hg : GV (S.blk scope) (own.map (·.2)) tg h) (ht : TXs (S.blk scope) ifs c) (hi1 : IX (S.blk scope) tg1 iter1 f1) (hg1 : GV (S.blk scope) ws tg1 h1) (ht1 : TXs (S.blk scope) ifs1 c1) (hk : EX (S.blk scope) kx ek) (hv : EX (S.blk scope) vx ev)
    (hs : ∀ (env : PySem.Env) x, foldedSetIterable iter env x = pure x := by intro _ _; rfl) (hs1 : ∀ (env : PySem.Env) x, foldedSetIterable iter1 env x = pure x := by intro _ _; rfl) :
    LX S (.DictComp kx vx [⟨tg, iter, ifs, 0⟩, ⟨tg1, iter1, ifs1, 0⟩] scope pos) (fun ρ => .bnd (f ρ) fun it => cmpD md (boxD S.K t).step [] (.dct t) (.dct t) (compL it.gd (turn1 (wipeR ρ (own.map (·.2))) h c (inF f1 ws h1 c1 (two' ek ev))) it.items)) := by
  cases t
  · exact lx_comp (o0 := fun _ => .dK []) own md (boxv_dict false) cf_dict (fun _ _ => new_dK) (fun _ _ _ => ⟨[], rfl, .nil⟩) hN ok (mk := fun env D => mkIn (.DictComp kx vx [⟨tg, iter, ifs, 0⟩, ⟨tg1, iter1, ifs1, 0⟩] scope pos) 1 iter1 env (.ref D)) (by intro _ _ _; rfl) hi hg ht
      (by_in (mk := fun env D => mkD kx vx env D) cf_dict hsub rfl rfl (by intro _ _ _; rfl) hi1 hg1 ht1 (by_dict false hk hv) hs1) hs
  · exact lx_comp (o0 := fun D => TD S.K D []) own md (boxv_dict true) cf_dict (fun _ _ => new_dT) (fun _ _ _ => ⟨[], [], rfl, .nil, .nil⟩) hN ok (mk := fun env D => mkIn (.DictComp kx vx [⟨tg, iter, ifs, 0⟩, ⟨tg1, iter1, ifs1, 0⟩] scope pos) 1 iter1 env (.ref D)) (by intro _ _ _; rfl) hi hg ht
      (by_in (mk := fun env D => mkD kx vx env D) cf_dict hsub rfl rfl (by intro _ _ _; rfl) hi1 hg1 ht1 (by_dict true hk hv) hs1) hs
theorem sw_d {X : Cx} {kx vx : Expr} {gs : List Comprehension} {scope : Scope} {pos py : Pos} {y : Str} {l : Nat} (c : InC S X) (hk : S.sc.kind = .function) (hy : S.sc.names.lookup y = some .local) (h : swB S scope y py.line pos.line = true) : swapsWith (.DictComp kx vx gs scope pos) (some (.Name y py)) l X.env = pure true :=
  sw_lc (elt := kx) (gs := gs) (l := l) c hk hy h
theorem sw_dF {X : Cx} {kx vx : Expr} {gs : List Comprehension} {scope : Scope} {pos py : Pos} {y : Str} {l : Nat} (c : InC S X) (h : swB S scope y py.line pos.line = false) : swapsWith (.DictComp kx vx gs scope pos) (some (.Name y py)) l X.env = pure false :=
  sw_lcF (elt := kx) (gs := gs) (l := l) c h
theorem sw_dC {X : Cx} {kx vx : Expr} {gs : List Comprehension} {scope : Scope} {pos py : Pos} {y : Str} {l : Nat} (c : InC S X) (h : S.sc.names.lookup y = some .cell) : swapsWith (.DictComp kx vx gs scope pos) (some (.Name y py)) l X.env = pure false :=
  sw_lcC (elt := kx) (gs := gs) (l := l) c h

def tDNewTD (K : KP) : TE := fun _ H Q => ∀ p, H p = none → Q (.ref p) (upd H p (TD K p []))
theorem pe_dnewTD {X : Cx} {pos : Pos} {K : KP} : PE X (.Dict [] [] pos) (tDNewTD K) := ⟨fun pins s σ H Q I h =>
  wpAny_Dict_empty ⟨.ref s.heap.objs.size, _, I.laid (a := s.heap.objs.size) (o := TD K s.heap.objs.size []) (t' := s.toks) (fun _ _ q => Heap.get?_push_of_some _ q) (Nat.le_refl _) (td_new (td_empty s.heap I.big)), rfl, h _ (I.hok.fresh (Nat.le_refl _))⟩⟩
/-- a new container, closed or changing -/
theorem post_newO {W : Wd} {σ : L2.St} {md : Bool} {d : DL.D} {o : O} {Q : VK} {ho : Addr → HO} (k : Ok S.K W) (h : Post S W σ (finDO md d o W.M) (PV S Q))
    (h1 : ∀ W' p, Le S.K W W' → W'.H p = some (ho p) → W'.frz p → Rp S.K W' (.ref p) d) (h2 : ∀ W' p, Le S.K W W' → W'.H p = some (ho p) → OOk S.K W' p o) : ∀ p, W.H p = none → Q (.ref p) (upd W.H p (ho p)) := fun p hp => by
  cases md with
  | false => exact h (W.lay p (ho p)) (le_lay k hp) (k.lay hp) rfl _ (h1 _ p (le_lay k hp) upd_same (k.frz_new hp))
  | true =>
    have l := le_grow (K := S.K) (ho := ho p) (o := o) k hp
    refine h (W.grow p (ho p) o) l (k.grow hp (h2 _ p l upd_same)) rfl _ (.ref ?_)
    show (W.β ++ [p])[W.M.length]? = some p
    rw [← k.len]; simp
theorem ex_dict0 (md t : Bool) {pos : Pos} : EX S (.Dict [] [] pos) (fun _ => finDO md (.dct t []) (.dct t [])) := by
  cases t
  · exact ⟨tDNewK, fun X c => pe_dnewK, fun W σ ρ Q k st h => post_newO (ho := fun _ => .dK []) k h (fun W' p _ e f => .dK (.inl e) f .nil) fun W' p _ e => ⟨[], e, .nil⟩⟩
  · exact ⟨tDNewTD S.K, fun X c => pe_dnewTD, fun W σ ρ Q k st h => post_newO (ho := fun p => TD S.K p []) k h (fun W' p _ e f => .dT (.inl e) f .nil .nil) fun W' p _ e => ⟨[], [], e, .nil, .nil⟩⟩
end
end DL
namespace DL
open PySem PySem.Spec PyProof.Rows L2
section
variable {S : SC}
/-- raise X('text') of a class of one's own below ValueError -/
theorem sx_raise {C : Addr} {x m : Str} {j : Nat} {p p2 pos pos' : Pos} (gC : S.mg x = some (.ref C)) (q : PySem.W.excIn S.F C He.veBase "ValueError.__new__" = true ∧ PySem.W.keepIn S.F (.ref C) = true ∧ PySem.W.subIn S.F (.ref C) (.type "BaseException") = some true ∧ PySem.W.typeIn S.F (.ref C) = some (.type "type")) (hg : Gs S x)
    (hdb : (x == ("__debug__" : Str)) = false := by decide) : SX S (.Raise (some (.Call (.Name x p) [.Constant (.str m) j p2] [] pos)) none pos') (fun ρ M => some (.exc x ρ, M)) := by
  refine ⟨fun _ σ H => S.W (.ref C) none σ H, fun X c => ?_, fun W σ ρ D k st h => PostS.at k h σ st C gC⟩
  exact L2N.ps_raise c.calm c.takes (L2N.pmk_own PySem.F.excBase_ValueError (by rw [c.K]; exact q.1) (by rw [c.mg]; exact gC) (by rw [c.K]; exact q.2.1) (raises_own (by rw [c.K]; exact q.2.2.1) (by rw [c.K]; exact q.2.2.2)) (gl_of c hg) hdb)
/-- *xs in a display -/
def starD (d : DL.D) : Mo (List DL.D) := fun M => match seqB M d with
  | some l => some (.ok l, M)
  | none => none
theorem ax_star {e : Expr} {es : List Expr} {p : Pos} {f : En → Mo DL.D} {g : En → Mo (List DL.D)} (h : EX S e f) (hr : AX S es g) (hs : ∀ env : PySem.Env, starEach (.Starred e p :: es) env = (true, eval e env) :: starEach es env := by intro; rfl) :
    AX S (.Starred e p :: es) (fun ρ => .bnd (.bnd (f ρ) starD) fun l => .bnd (g ρ) fun ds => .ret (l ++ ds)) := by
  obtain ⟨ta, a1, a2⟩ := h.ex
  obtain ⟨tb, b1, b2⟩ := hr.ex
  refine ⟨StX.tStar S.F ta tb, fun X c => by have z := StX.pa_star (a1 X c) (b1 X c) (hs X.env); rw [c.K] at z; exact z, fun W σ ρ Q k st h => ?_⟩
  refine a2 W σ ρ _ k st (Post.imp (Post.bnd (Post.bnd h)) fun d W1 l1 k1 h1 v rv => ?_)
  unfold starD at h1
  cases e : seqB W1.M d with
  | none => rw [e] at h1; exact h1.elim
  | some l =>
    rw [e] at h1
    obtain ⟨a, xs, rfl, hq, r⟩ := seqB_run k1 rv e
    have h1 := post_ok k1 h1
    exact ⟨a, xs, rfl, hq.symm, b2 W1 σ ρ _ k1 (st.mono l1) (Post.imp (Post.bnd h1) fun ds W2 l2 k2 h2 ys ry => Post.ret k2 h2 _ ((r.mono l2).append ry))⟩
end
end DL
namespace DL
open PySem PySem.Spec PyProof.Rows L2
section
variable {P : Program} {w : World} {A : Around} {E : Value → Shared → Prop} {s : Shared} {a x : Addr} {k : List Int} {L : List (Addr × List Int)} {es : Array (Int × Value)} {ep : Nat} {t : SetTable}
/-- found.add((..)) -/
theorem setT_add (R : SetTR P w s.heap a L es ep t) (hx : IsT P w s.heap k x) (hu : A.units + 2 < cLine) (hfew : L.length + 1 < 64) {Q : Value → Shared → Prop}
    (hQ : ∀ h' L' es' ep' t', Heap.SameBut a s.heap h' → SetTR P w h' a L' es' ep' t' → (k ∈ L.map (·.2) → L' = L) → (k ∉ L.map (·.2) → L'.Perm ((x, k) :: L)) → Q .none { s with heap := h', toks := s.toks + (k.length + 1) }) :
    wpAny (model P w) A (call (.builtin "set.add") [.ref a, .ref x]) Q E s := by
  obtain ⟨o, ho, hex, hd⟩ := R.ob
  refine wpAny_call_entry F.slot_set_add (show s.TypeIs (.ref a) "set" from ⟨o, ho, hex.1⟩) F.entry_set_add ?_ (F.args_set_add_2 _ _)
  unfold Builtin.«set.add» Builtin.Frozenset.oneOther
  simp only [List.isEmpty_nil, bind_assoc]
  unfold Builtin.Frozenset.addrOf setAdd
  refine wpAny_bind (wpAny_pure ?_)
  try dsimp only
  refine wpAny_bind (wpAny_pure ?_)
  try dsimp only
  refine wpAny_bind ?_
  refine wpAny_holding ?_
  have hu1 : A.in1.units < cLine := by show A.units + 1 < cLine; omega
  refine wpAny_bind (wpAny_pyHash_tuple hu1 hx ?_)
  refine add_at (s := { s with toks := s.toks + (k.length + 1) }) R hx hu1 hfew fun b h' L' es' ep' t' sb r c1 c2 => ?_
  show wpAny _ _ (ret Value.none) _ _ _
  exact wpAny_pure ⟨_, rfl, hQ h' L' es' ep' t' sb r c1 c2⟩
end
section
variable {X : Cx} {pins : List (Addr × Obj)} {σ : L2.St} {H : Hp} {s : Shared} {D : Addr} {L : List (Addr × List Int)}
theorem setTO_add {E : Value → Shared → Prop} {x : Addr} {k : List Int} {Q : Value → Shared → Prop} (I : Inv X pins σ H s) (hD : H D = some (SetTO X.prog X.w D L)) (ht : ∀ p ∈ L, SqT X.K H p.1 (p.2.map V.int)) (hx : SqT X.K H x (k.map V.int)) (hu : X.A.units + 2 < cLine) (hfew : L.length + 1 < 64)
    (h : ∀ s' L', (k ∈ L.map (·.2) → L' = L) → (k ∉ L.map (·.2) → L'.Perm ((x, k) :: L)) → Inv X pins σ (upd H D (SetTO X.prog X.w D L')) s' → Q .none s') : wpAny (model X.prog X.w) X.A (call (.builtin "set.add") [.ref D, .ref x]) Q E s := by
  have R0 : SetT0 X.prog X.w s.heap D L := (I.hok D _ hD).1
  obtain ⟨es, ep, t, R⟩ := R0.full fun p hp => I.isT (ht p hp)
  refine setT_add R (I.isT hx) hu hfew fun h' L' es' ep' t' sb r c1 c2 => ?_
  obtain ⟨o, ho, _⟩ := r.ob
  exact h _ L' c1 c2 (I.write (e := D) (t' := s.toks + (k.length + 1)) (by rw [hD]; trivial) (.inl rfl) (fun b u hb hu => (sb.2 b hb).trans hu) ⟨o, ho⟩ (setTO_new r.t0))
def mkS (elt : Expr) (env : PySem.Env) (D : Addr) (k : Sem PySem.Fin) : Sem PySem.Fin := (eval elt env >>= fun v => standAt elt.pos >>= fun _ => call (.builtin "set.add") [.ref D, v] >>= fun _ => pure ()) >>= fun _ => k
def tAddS (K : KP) (te : TE) (D : Addr) : TB := fun σ H Kt => te σ H fun y H4 => ∃ (x : Addr) (k : List Int) (L : List (Addr × List Int)), y = .ref x ∧ SqT K.K H4 x (k.map V.int) ∧ H4 D = some (SetTO K.P K.w D L) ∧ (∀ p ∈ L, SqT K.K H4 p.1 (p.2.map V.int)) ∧ L.length + 1 < 64 ∧
  ∀ L', (k ∈ L.map (·.2) → L' = L) → (k ∉ L.map (·.2) → L'.Perm ((x, k) :: L)) → Kt (upd H4 D (SetTO K.P K.w D L'))
end
section
variable {Xb : Cx}
theorem pb_set {elt : Expr} {te : TE} {vs : List Nat} {D : Addr} (hu : Xb.A.units + 2 < cLine) (hxe : Xb.xe = fun _ _ => False) (he : PE Xb elt te) : PB Xb vs (mkS elt Xb.env D) (tAddS (XK Xb) te D) := by
  refine ⟨fun pins s σ H K k Q E I h hk => ?_⟩
  refine wpAny_bind (wpAny_bind (wpAny_mono (he.run pins s σ H _ I h) (fun u s1 ⟨y, H4, I4, r4, x, ks, L, hy, hx, hD, ht, hz, q⟩ => ?_) fun _ _ z => by rw [hxe] at z; exact z.elim))
  subst hy
  obtain rfl : u = Value.ref x := r4
  exact wpAny_bind (wpAny_standAt (wpAny_bind (setTO_add I4 hD ht hx hu hz fun s2 L' c1 c2 I5 => wpAny_pure (hk s2 _ (inv_wipe I5 vs) (q L' c1 c2)))))
theorem cf_set {elt tg iter : Expr} {ifs : List Expr} {gs : List Comprehension} {scope : Scope} {pos : Pos} : CF (.SetComp elt (⟨tg, iter, ifs, 0⟩ :: gs) scope pos) scope tg iter ifs (newSet (.type "set")) :=
  ⟨⟨gs, rfl⟩, fun A j it acc env => ⟨rfl, rfl, rfl⟩, fun P w j it acc env => ⟨rfl, rfl⟩, fun env => ⟨_, rfl⟩, fun env => ⟨_, fun u => rfl⟩⟩
theorem new_setT {X : Cx} : NewC X (newSet (.type "set")) (fun D => SetTO X.prog X.w D []) :=
  ⟨{ cls := .type "set", dict := none, data := .set #[] 0 (.fresh 0 0 (!X.w.params.followText "set-order")) }, rfl, fun A s Q E h => PpSet.newSet_ok h, fun H h _ => setTO_new (setTR_fresh (Heap.get?_push_size _ rfl)).t0⟩
end
def boxS (K : KP) : Box K (List (List Int)) (List Int) where
  rel := fun D W ho l => ∃ L, ho = SetTO K.P K.w D L ∧ (∀ p ∈ L, SqT K.K W.H p.1 (p.2.map V.int)) ∧ (L.map (·.2)).Perm l
  live := fun ⟨_, e, _⟩ => by rw [e]; rfl
  mono := fun z ⟨L, e, t, p⟩ => ⟨L, e, fun q hq => z.t _ _ (t q hq), p⟩
  step := fun l y => if l.length + 1 < 64 then some (if y ∈ l then l else l ++ [y]) else none
def toI : DL.D → Option Int
  | .int i => some i
  | _ => none
def toIs : DL.D → Option (List Int)
  | .tup l => l.mapM toI
  | _ => none
theorem toI_run {K : KP} {W : Wd} {v : V} {d : DL.D} {i : Int} (r : Rp K W v d) (h : toI d = some i) : v = .int i ∧ d = .int i := by
  cases r <;> first
    | (cases h; exact ⟨rfl, rfl⟩)
    | cases h
theorem toIL_run {K : KP} {W : Wd} : ∀ {vs : List V} {l : List DL.D} {ks : List Int}, RpA K W vs l → l.mapM toI = some ks → vs = ks.map V.int ∧ l = ks.map .int
  | _, _, ks, .nil, h => by
    simp at h; subst h; exact ⟨rfl, rfl⟩
  | _, _, ks, .cons (d := d) (ds := ds) r t, h => by
    rw [List.mapM_cons] at h
    cases e1 : toI d with
    | none => rw [e1] at h; cases h
    | some i =>
      cases e2 : ds.mapM toI with
      | none => rw [e1, e2] at h; cases h
      | some r' =>
        rw [e1, e2] at h; cases h
        obtain ⟨rfl, rfl⟩ := toI_run r e1
        obtain ⟨q1, q2⟩ := toIL_run t e2
        exact ⟨by rw [q1]; rfl, by rw [q2]; rfl⟩
theorem toIs_run {K : KP} {W : Wd} {v : V} {d : DL.D} {ks : List Int} (r : Rp K W v d) (h : toIs d = some ks) : d = .tup (ks.map .int) ∧ ∃ b, v = .ref b ∧ SqT K.K W.H b (ks.map V.int) := by
  cases r with
  | tup h1 h2 =>
    obtain ⟨q1, q2⟩ := toIL_run h2 h
    subst q1 q2
    exact ⟨rfl, _, rfl, h1⟩
  | _ => cases h
def oneS (e : En → Mo DL.D) (ρ : En) : Mo (List (List Int)) := .bnd (e ρ) fun y => match toIs y with
  | some k => .ret [k]
  | none => .stuck
section
variable {S : SC}
theorem semb_set {te : TE} {e : En → Mo DL.D} (he : SemE S te e) : SemB S (boxS S.K) (tAddS S.K te) (oneS e) := by
  intro D W1 W2 a a' σ ρ Kt ys M' cs np st hf hfo hK
  obtain ⟨y, M3, q1, q2⟩ := bnd_ok (m := e ρ) hf
  cases ek : toIs y with
  | none => rw [ek] at q2; cases q2
  | some k =>
    rw [ek] at q2
    obtain ⟨rfl, rfl⟩ := ret_ok q2
    refine he W2 σ ρ _ cs.ok st (post_of q1 fun W3 l3 k3 m3 v rv => ?_)
    have c3 := cs.mono l3 k3
    obtain ⟨ho, e1, L, rfl, ht, pm⟩ := c3.at'
    obtain ⟨rfl, x, rfl, hx⟩ := toIs_run rv ek
    have hs : (if a.length + 1 < 64 then some (if k ∈ a then a else a ++ [k]) else none) = some a' := by
      have z : ((if a.length + 1 < 64 then some (if k ∈ a then a else a ++ [k]) else none).bind fun x => foldO (boxS S.K).step x []) = some a' := hfo
      split at z
      · rename_i q; rw [if_pos q]; exact z
      · cases z
    split at hs
    · rename_i hlt
      have hl : L.length = a.length := by rw [← pm.length_eq, List.length_map]
      refine ⟨x, k, L, rfl, hx, e1, ht, by omega, fun L' c1 c2 => ?_⟩
      have key : (∀ p ∈ L', SqT S.K.K W3.H p.1 (p.2.map V.int)) ∧ (L'.map (·.2)).Perm a' := by
        cases hs
        by_cases hm : k ∈ L.map (·.2)
        · rw [c1 hm, if_pos (pm.mem_iff.mp hm)]
          exact ⟨ht, pm⟩
        · rw [if_neg fun z => hm (pm.mem_iff.mpr z)]
          have p2 := c2 hm
          refine ⟨fun p hp => ?_, ?_⟩
          · rcases List.mem_cons.mp (p2.mem_iff.mp hp) with rfl | hp
            · exact hx
            · exact ht p hp
          · refine (p2.map (·.2)).trans ?_
            show (k :: L.map (·.2)).Perm (a ++ [k])
            exact (pm.cons k).trans (List.perm_append_comm (l₁ := [k]) (l₂ := a))
      obtain ⟨c4, z4⟩ := c3.write np (o := SetTO S.K.P S.K.w D L') (a' := a') ⟨L', rfl, key.1, key.2⟩
      exact hK _ c4 m3 (l3.toZ.trans z4)
    · cases hs
theorem by_set {scope : Scope} {elt : Expr} {e : En → Mo DL.D} {vs : List Nat} (he : EX (S.blk scope) elt e) : BY S scope (boxS S.K) vs (fun env D => mkS elt env D) (oneS e) := by
  obtain ⟨te, e1, e2⟩ := he.ex
  refine ⟨tAddS S.K te, fun X c hx D => ?_, semb_set e2⟩
  have z := pb_set (vs := vs) (D := D) (by have := hu_of' c; omega) hx (e1 X c)
  unfold XK at z
  rw [c.P, c.w, c.K] at z
  exact z
end
end DL
namespace DL
open PySem PySem.Spec PyProof.Rows L2
/-- what was made is locked for good -/
def LkH (Q : Hp → Prop) : Hp → Prop := fun H' => ∃ a u, H' a = some u ∧ Mut (some u) ∧ ∀ o, Q (upd H' a (.frz o u))
def tLk (t : TE) : TE := fun σ H Q => t σ H fun v => LkH (Q v)
section
variable {X : Cx}
theorem pe_lk {e : Expr} {t : TE} (h : PE X e t) : PE X e (tLk t) := ⟨fun pins s σ H Q I q => thn (h.run pins s σ H _ I q) fun u s1 ⟨v, H1, I1, r1, a, w, e1, mu, q1⟩ => by
  obtain ⟨o, I2⟩ := I1.lock e1 mu
  exact ⟨v, _, I2, r1, q1 o⟩⟩
theorem ps_lk {st : Stmt} {t : TE} {i : Nat} (h : PS X st (tAsg t (gName i))) : PS X st (tAsg (tLk t) (gName i)) := ⟨fun pins s σ H D I q => by
  refine thn (h.run pins s σ H ⟨fun σ' => LkH (D.nx σ'), D.rt, D.bk, D.ct⟩ I q) fun fl s1 z => ?_
  cases fl with
  | next =>
    obtain ⟨σ', H', I', a, w, e1, mu, q1⟩ := z
    obtain ⟨o, I2⟩ := I'.lock e1 mu
    exact ⟨σ', _, I2, q1 o⟩
  | brk => exact z
  | cont => exact z
  | ret u => exact z⟩
end
section
variable {K : KP} {W1 W2 : Wd} {D : Addr} {a : List (List Int)}
theorem Cs.finishS (c : Cs K (boxS K) W1 D W2 a) (np : D ∉ W1.pv) : ∃ u, W2.H D = some u ∧ Mut (some u) ∧ ∀ o, ∃ W3 : Wd, W3.H = upd W2.H D (.frz o u) ∧ W3.M = W2.M ∧ Le K W1 W3 ∧ Ok K W3 ∧ Rp K W3 (.ref D) (.set a) := by
  obtain ⟨ho, e, L, rfl, ht, pm⟩ := c.at'
  refine ⟨_, e, True.intro, fun o => ?_⟩
  have l1 := le_unpv c.le
  have k1 := c.ok.unpv c.le
  have f1 : (W2.unpv W1.pv).frz D := ⟨fun n h => absurd (List.mem_of_getElem? h) (c.ok.pn D c.pv), np⟩
  have l2 := le_lock (o := o) k1 (u := SetTO K.P K.w D L) rfl e f1
  exact ⟨(W2.unpv W1.pv).lock D o (SetTO K.P K.w D L), rfl, rfl, l1.trans l2, k1.lock rfl e f1, .set ⟨o, L, upd_same, fun p hp => l2.t _ _ (ht p hp), pm⟩⟩
end
def setD (m : Mo (List (List Int))) : Mo DL.D := .bnd m.ne fun ys => match foldO (fun (l : List (List Int)) y => if l.length + 1 < 64 then some (if y ∈ l then l else l ++ [y]) else none) [] ys with
  | some a => .ret (.set a)
  | none => .stuck
theorem setD_inv {S : SC} {W : Wd} {σ : L2.St} {m : Mo (List (List Int))} {Q : VK} (h : Post S W σ (setD m W.M) (PV S Q)) :
    ∃ ys M' a, m W.M = some (.ok ys, M') ∧ foldO (boxS S.K).step [] ys = some a ∧ ∀ W', Le S.K W W' → Ok S.K W' → W'.M = M' → PV S Q (.set a) W' := by
  unfold setD Mo.bnd Mo.ne at h
  cases e : m W.M with
  | none => simp only [e] at h; exact h.elim
  | some p =>
    obtain ⟨r, M1⟩ := p
    cases r with
    | error x => simp only [e] at h; exact h.elim
    | ok ys =>
      simp only [e] at h
      cases hb : foldO (fun (l : List (List Int)) y => if l.length + 1 < 64 then some (if y ∈ l then l else l ++ [y]) else none) [] ys with
      | none => rw [hb] at h; exact h.elim
      | some a => rw [hb] at h; exact ⟨ys, M1, a, rfl, hb, h⟩
theorem lx_set {S : SC} {scope : Scope} (own : List (Str × Nat)) {C tg iter : Expr} {ifs : List Expr} {mk : PySem.Env → Addr → Sem PySem.Fin → Sem PySem.Fin} {f : En → Mo (List (List Int))} {f1 : En → Mo Itd'} {h : DL.D → En → Mo En} {c' : En → Mo Bool}
    (cf : CF C scope tg iter ifs (newSet (.type "set"))) (hN : S.N.Nodup) (ok : BlkOk S.N S.sc scope own)
    (heq : ∀ (it : Value) (D : Addr) (env : PySem.Env), compTurn C 0 it (.ref D) env = turnOf tg iter ifs env it (mk env D) (again (.compLoop C 0 it (.ref D) env)))
    (hi : IX S tg iter f1) (hg : GV (S.blk scope) (own.map (·.2)) tg h) (ht : TXs (S.blk scope) ifs c') (hb : BY S scope (boxS S.K) (own.map (·.2)) mk f) (hs : ∀ (env : PySem.Env) x, foldedSetIterable iter env x = pure x := by intro _ _; rfl) :
    LX S C (fun ρ => .bnd (f1 ρ) fun it => setD (compL it.gd (turn1 (wipeR ρ (own.map (·.2))) h c' f) it.items)) := by
  obtain ⟨wi, i1, i2⟩ := hi.ex
  obtain ⟨g, g1, g2⟩ := hg.ex
  obtain ⟨tt, t1, t2⟩ := ht.ex
  obtain ⟨t, b1, b2⟩ := hb.ex
  have hnew : ∀ X, InC S X → NewC X (newSet (.type "set")) (fun D => SetTO S.K.P S.K.w D []) := fun X c => by
    have z := new_setT (X := X)
    rw [c.P, c.w] at z
    refine ⟨?_⟩
    have z2 := (new_setT (X := X)).ex
    rw [c.P, c.w] at z2 ⊢
    exact z2
  have key := fun X (c : InC S X) => pe_comp (o0 := fun D => SetTO S.K.P S.K.w D []) (own := own) cf (hnew X c) c.calm (by rw [c.N]; exact hN) (i1 X c) (by rw [c.N, c.sc]; exact ok) (fun it acc D env e => by subst e; exact heq it D env) (fun s H C' cl fp => g1 _ (c.blk scope s H C' cl fp)) (fun s H C' cl fp => t1 _ (c.blk scope s H C' cl fp)) (fun s H C' cl fp D => b1 _ (c.blk scope s H C' cl fp) rfl D) (hs X.env)
  refine ⟨tLk (tComp (fun D => SetTO S.K.P S.K.w D []) wi g tt t (own.map (·.2))), fun W σ ρ Q k st hh => ?_, fun X c => pe_lk (key X c).1, fun X c i y py spos hy hyl hsw => ps_lk ((key X c).2 i y py spos hy hyl hsw)⟩
  refine i2 W σ ρ _ k st (Post.imp (Post.bnd hh) fun it W1 l1 k1 q J hJ D hD => ?_)
  obtain ⟨ys, M', a, hl, hfo, q⟩ := setD_inv q
  have np := k1.nopv hD
  have le := le_priv (o := SetTO S.K.P S.K.w D []) k1 hD
  have c0 : Cs S.K (boxS S.K) W1 D (W1.priv D (SetTO S.K.P S.K.w D [])) [] := ⟨le, k1.priv hD, List.mem_cons_self, SetTO S.K.P S.K.w D [], upd_same, [], rfl, (fun p hp => by cases hp), List.Perm.nil⟩
  refine loop_sem (S := S.blk scope) (W2 := W1.priv D (SetTO S.K.P S.K.w D [])) g2 t2 b2 c0 np ((st.mono l1).mono le) (fun W3 z3 k3 hgd => hJ.2 W3 (le.toZ.trans z3) k3 hgd) hl hfo fun W3 c3 m3 z3 => ?_
  obtain ⟨u, e, mu, fin⟩ := c3.finishS np
  refine ⟨D, u, e, mu, fun o => ?_⟩
  obtain ⟨W4, w1, w2, w3, w4, w5⟩ := fin o
  rw [← w1]
  exact q W4 w3 w4 (by rw [w2, m3]) _ w5
section
variable {S : SC}
theorem lx_s1 (own : List (Str × Nat)) {elt tg iter : Expr} {ifs : List Expr} {scope : Scope} {pos : Pos} {f : En → Mo Itd'} {h : DL.D → En → Mo En} {c : En → Mo Bool} {e : En → Mo DL.D} (hN : S.N.Nodup) (ok : BlkOk S.N S.sc scope own)
    (hi : IX S tg iter f) (hg : GV (S.blk scope) (own.map (·.2)) tg h) (ht : TXs (S.blk scope) ifs c) (he : EX (S.blk scope) elt e) (hs : ∀ (env : PySem.Env) x, foldedSetIterable iter env x = pure x := by intro _ _; rfl) :
    LX S (.SetComp elt [⟨tg, iter, ifs, 0⟩] scope pos) (fun ρ => .bnd (f ρ) fun it => setD (compL it.gd (turn1 (wipeR ρ (own.map (·.2))) h c (oneS e)) it.items)) :=
  lx_set own cf_set hN ok (mk := fun env D => mkS elt env D) (by intro _ _ _; rfl) hi hg ht (by_set he) hs
theorem lx_s3 (own : List (Str × Nat)) (ws ws2 : List Nat) {elt tg iter tg1 iter1 tg2 iter2 : Expr} {ifs ifs1 ifs2 : List Expr} {scope : Scope} {pos : Pos} {f f1 f2 : En → Mo Itd'} {h h1 h2 : DL.D → En → Mo En} {c c1 c2 : En → Mo Bool} {e : En → Mo DL.D} (hN : S.N.Nodup) (ok : BlkOk S.N S.sc scope own)
    (hsub : ∀ i ∈ ws, i ∈ own.map (·.2)) (hsub2 : ∀ i ∈ ws2, i ∈ ws)
    (hi : IX S tg iter f) (hg : GV (S.blk scope) (own.map (·.2)) tg h) (ht : TXs (S.blk scope) ifs c) (hi1 : IX (S.blk scope) tg1 iter1 f1) (hg1 : GV (S.blk scope) ws tg1 h1) (ht1 : TXs (S.blk scope) ifs1 c1)
    (hi2 : IX (S.blk scope) tg2 iter2 f2) (hg2 : GV (S.blk scope) ws2 tg2 h2) (ht2 : TXs (S.blk scope) ifs2 c2) (he : EX (S.blk scope) elt e)
    (hs : ∀ (env : PySem.Env) x, foldedSetIterable iter env x = pure x := by intro _ _; rfl) (hs1 : ∀ (env : PySem.Env) x, foldedSetIterable iter1 env x = pure x := by intro _ _; rfl) (hs2 : ∀ (env : PySem.Env) x, foldedSetIterable iter2 env x = pure x := by intro _ _; rfl) :
    LX S (.SetComp elt [⟨tg, iter, ifs, 0⟩, ⟨tg1, iter1, ifs1, 0⟩, ⟨tg2, iter2, ifs2, 0⟩] scope pos) (fun ρ => .bnd (f ρ) fun it => setD (compL it.gd (turn1 (wipeR ρ (own.map (·.2))) h c (inF f1 ws h1 c1 (inF f2 ws2 h2 c2 (oneS e)))) it.items)) :=
  lx_set own cf_set hN ok (mk := fun env D => mkIn (.SetComp elt [⟨tg, iter, ifs, 0⟩, ⟨tg1, iter1, ifs1, 0⟩, ⟨tg2, iter2, ifs2, 0⟩] scope pos) 1 iter1 env (.ref D)) (by intro _ _ _; rfl) hi hg ht
    (by_in (mk := fun env D => mkIn (.SetComp elt [⟨tg, iter, ifs, 0⟩, ⟨tg1, iter1, ifs1, 0⟩, ⟨tg2, iter2, ifs2, 0⟩] scope pos) 2 iter2 env (.ref D)) cf_set hsub rfl rfl (by intro _ _ _; rfl) hi1 hg1 ht1
      (by_in (mk := fun env D => mkS elt env D) cf_set hsub2 rfl rfl (by intro _ _ _; rfl) hi2 hg2 ht2 (by_set he) hs2) hs1) hs
end
def bdB (B : Int) (k : List Int) : Bool := k.all fun m => decide (0 ≤ m) && decide (m < B)
theorem bdB_run {B : Int} {k : List Int} (h : bdB B k = true) : TS.Bd B k := fun m hm => by
  have z := List.all_eq_true.mp h m hm
  simp only [Bool.and_eq_true, decide_eq_true_eq] at z
  exact z
theorem code_eq {B : Int} : ∀ {a b : List Int}, TS.Bd B a → TS.Bd B b → a.length = b.length → TS.code B a = TS.code B b → a = b
  | [], [], _, _, _, _ => rfl
  | [], _ :: _, _, _, h, _ => by simp at h
  | _ :: _, [], _, _, h, _ => by simp at h
  | x :: a, y :: b, ha, hb, h, e => by
    have hl : a.length = b.length := by simpa using h
    rcases Int.lt_trichotomy x y with z | z | z
    · have q := TS.code_lt hl ha.tail hb.tail z; omega
    · subst z
      have e2 : TS.code B a = TS.code B b := by
        have e : x * B ^ a.length + TS.code B a = x * B ^ b.length + TS.code B b := e
        rw [hl] at e
        omega
      rw [code_eq ha.tail hb.tail hl e2]
    · have q := TS.code_lt hl.symm hb.tail ha.tail z; omega
def sortS (B : Int) (l : List (List Int)) : List (List Int) := l.mergeSort fun a b => decide (TS.code B a ≤ TS.code B b)
theorem sortS_pw (B : Int) (l : List (List Int)) : (sortS B l).Pairwise fun a b => TS.code B a ≤ TS.code B b := by
  have z := List.pairwise_mergeSort (le := fun a b : List Int => decide (TS.code B a ≤ TS.code B b)) (by intro a b c h1 h2; simp at h1 h2 ⊢; omega) (by intro a b; simp; omega) l
  exact z.imp fun h => by simpa using h
def tupI (k : List Int) : DL.D := .tup (k.map .int)
def sortedS (md : Bool) (d : Nat) (B : Int) (x : DL.D) : Mo DL.D := fun M => match x with
  | .set l => cond (decide (1 ≤ d) && l.all fun k => decide (k.length = d) && bdB B k) (finD md ((sortS B l).map tupI) M) none
  | _ => none
def rSortedT' (K : KP) : List V → Hp → VK → Prop := fun vs H Q => ∃ (a : Addr) (o : Obj) (L : List (Addr × List Int)) (d : Nat) (B : Int), vs = [V.ref a] ∧ H a = some (.frz o (SetTO K.P K.w a L)) ∧ (∀ p ∈ L, SqT K.K H p.1 (p.2.map V.int)) ∧ 1 ≤ d ∧ (∀ p ∈ L, p.2.length = d ∧ TS.Bd B p.2) ∧
  ∀ (L' : List (Addr × List Int)) (p : Addr), L'.Perm L → L'.Pairwise (fun q r => TS.code B q.2 ≤ TS.code B r.2) → H p = none → Q (.ref p) (upd H p (.lst (L'.map fun q => V.ref q.1)))
theorem call_sortedT {X : Cx} (hc : X.calm = true) : CallR X (.builtin "sorted") (rSortedT' (XK X)) := by
  intro pins s σ H vs us Q I r h
  obtain ⟨a, ob, L, d, B, rfl, ha, hk, hd, hB, q⟩ := h
  have R0 : SetT0 X.prog X.w s.heap a L := (I.hok a _ ha).2.1
  obtain ⟨es, ep, t, R⟩ := R0.full fun p hp => I.isT (hk p hp)
  rw [Vals.ref1 r]
  refine sorted_setT R (I.ok.hd hc) hd hB fun s' p out c L' k g o hp hg hout pm pw => ?_
  have hfew : L'.length < 64 := by rw [pm.length_eq]; exact R.few
  have hlen : (L'.map fun q => V.ref q.1).length ≤ sizeLine := by rw [List.length_map, sizeLine_eq]; omega
  have hn : H p = none := I.hok.fresh hp
  have hv : Vals (L'.map fun q => V.ref q.1) out.toList := by rw [hout]; exact vals_of_refs L'
  have J : Inv X pins σ (upd H p (.lst (L'.map fun q => V.ref q.1))) { s with heap := s'.heap, gens := s'.gens, drawn := s'.drawn, toks := s'.toks } :=
    I.call (ch := []) (Un.laid k hp hn) (I.hok.laid k hp ⟨hlen, out.toList, c, hv, hg⟩) (by rw [g]; exact I.bare) (fun _ z => nomatch z)
  have e : s' = { s with heap := s'.heap, gens := s'.gens, drawn := s'.drawn, toks := s'.toks } := by
    cases s'
    cases s
    cases o
    rfl
  rw [e]
  exact ⟨.ref p, _, J, rfl, q L' p pm pw hn⟩
theorem rpa_ints {K : KP} {W : Wd} : ∀ ks : List Int, RpA K W (ks.map V.int) (ks.map .int)
  | [] => .nil
  | k :: ks => .cons (.int k) (rpa_ints ks)
theorem rpa_tupI {K : KP} {W : Wd} : ∀ {L : List (Addr × List Int)}, (∀ p ∈ L, SqT K.K W.H p.1 (p.2.map V.int)) → RpA K W (L.map fun q => V.ref q.1) ((L.map (·.2)).map tupI)
  | [], _ => .nil
  | p :: L, h => .cons (.tup (h p List.mem_cons_self) (rpa_ints p.2)) (rpa_tupI fun q hq => h q (List.mem_cons_of_mem _ hq))
theorem cx_sortedS {S : SC} (md : Bool) (d : Nat) (B : Int) : CXx S (.builtin "sorted") (arg1 (sortedS md d B)) := by
  refine ⟨rSortedT' S.K, fun X c => by have z := call_sortedT c.calm; unfold XK at z; rw [c.P, c.w, c.K] at z; exact z, fun W σ xs as Q k r h => ?_⟩
  obtain ⟨v, x, rfl, rv, h⟩ := arg1_run r h
  unfold sortedS at h
  cases rv with
  | @set a l hs =>
    obtain ⟨o, L, e, ht, pm⟩ := hs
    obtain ⟨hc, h⟩ := post_condO h
    simp only [Bool.and_eq_true, decide_eq_true_eq] at hc
    have hB : ∀ p ∈ L, p.2.length = d ∧ TS.Bd B p.2 := fun p hp => by
      have z := List.all_eq_true.mp hc.2 p.2 (pm.mem_iff.mp (List.mem_map_of_mem hp))
      simp only [Bool.and_eq_true, decide_eq_true_eq] at z
      exact ⟨z.1, bdB_run z.2⟩
    refine ⟨a, o, L, d, B, rfl, e, ht, hc.1, hB, fun L' p pm' pw hp => ?_⟩
    have eq : L'.map (·.2) = sortS B l := by
      refine List.Perm.eq_of_pairwise (le := fun a b => TS.code B a ≤ TS.code B b) (fun x y hx hy h1 h2 => ?_) (List.pairwise_map.mpr pw) (sortS_pw B l) ((pm'.map (·.2)).trans (pm.trans (List.mergeSort_perm l _).symm))
      obtain ⟨p1, hp1, rfl⟩ := List.mem_map.mp hx
      obtain ⟨p2, hp2, rfl⟩ := List.mem_map.mp (pm.mem_iff.mpr ((List.mergeSort_perm l _).mem_iff.mp hy))
      have b1 := hB p1 (pm'.mem_iff.mp hp1)
      have b2 := hB p2 hp2
      exact code_eq b1.2 b2.2 (b1.1.trans b2.1.symm) (by omega)
    have rr : RpA S.K W (L'.map fun q => V.ref q.1) ((sortS B l).map tupI) := by
      rw [← eq]
      exact rpa_tupI fun p hp => ht p (pm'.mem_iff.mp hp)
    exact post_new k rr h p hp
  | _ => exact (show False from h).elim
end DL
namespace DL
open PySem PySem.Spec PyProof.Rows L2
def tLkd (t : TE) : TE := fun σ H Q => t σ H fun v H1 => Q v H1 ∨ ∃ a u, v = .ref a ∧ H1 a = some u ∧ Mut (some u) ∧ ∀ o, Q v (upd H1 a (.frz o u))
theorem pe_lkd {X : Cx} {e : Expr} {t : TE} (h : PE X e t) : PE X e (tLkd t) := ⟨fun pins s σ H Q I q => thn (h.run pins s σ H _ I q) fun u s1 ⟨v, H1, I1, r1, q1⟩ => by
  rcases q1 with q1 | ⟨a, w, rfl, e1, mu, q1⟩
  · exact ⟨v, _, I1, r1, q1⟩
  · obtain ⟨o, I2⟩ := I1.lock e1 mu
    exact ⟨_, _, I2, r1, q1 o⟩⟩
section
variable {S : SC}
theorem itok_dV {W : Wd} {a : Addr} {o : Obj} {kvs : List (Key × V)} {l : List (DL.D × DL.D)} (h : W.H a = some (.frz o (.dK kvs))) (r : RpK S.K W kvs l) (z : SzH S.K W.H) : ItOk S W (L2.Itd a o kvs) ⟨l.map (·.2), none⟩ := by
  have hl := rpk_len r
  refine ⟨by show (l.map (·.2)).length ≤ _; rw [List.length_map, ← hl]; exact z.k a kvs (.inr ⟨o, h⟩), fun W1 l1 k1 _ => ⟨fun i hi => ⟨⟨l1.z _ _ _ h, by simpa [hl] using hi⟩, fun x H' hy => ?_⟩, l1.z _ _ _ h, by simp [hl]⟩⟩
  obtain ⟨rfl, k, hkv⟩ := hy
  obtain ⟨d, hd, rd⟩ := rpk_get r hkv
  exact ⟨W1, Le.refl _ _, k1, rfl, rfl, d, by rw [List.getElem?_map, hd]; rfl, rd.mono0 l1.zero⟩
theorem itok_dI {W : Wd} {a : Addr} {o : Obj} {kvs : List (Key × V)} {l : List (DL.D × DL.D)} (h : W.H a = some (.frz o (.dK kvs))) (r : RpK S.K W kvs l) (z : SzH S.K W.H) : ItOk S W (L2.Iti a o kvs) ⟨l.map fun p => .tup [p.1, p.2], none⟩ := by
  have hl := rpk_len r
  refine ⟨by show (l.map _).length ≤ _; rw [List.length_map, ← hl]; exact z.k a kvs (.inr ⟨o, h⟩), fun W1 l1 k1 _ => ⟨fun i hi => ⟨⟨l1.z _ _ _ h, by simpa [hl] using hi⟩, fun x H' hy => ?_⟩, l1.z _ _ _ h, by simp [hl]⟩⟩
  obtain ⟨T, k, v, hkv, rfl, hT, rfl⟩ := hy
  obtain ⟨d, hd, rd⟩ := rpk_get r hkv
  have l2 := le_lay (o := .tup [kV k, v]) k1 hT
  exact ⟨W1.lay T (.tup [kV k, v]), l2, k1.lay hT, rfl, rfl, .tup [kD k, d], by rw [List.getElem?_map, hd]; rfl, .tup (.inl (.inl upd_same)) (.cons (rp_kD k) (.one ((rd.mono0 l1.zero).mono l2)))⟩
/-- the entries of a dict that changes no more -/
def itE (f : DL.D × DL.D → DL.D) (d : DL.D) : Mo Itd' := fun M => match d with
  | .dct false l => some (.ok ⟨l.map f, none⟩, M)
  | .ref n => match M[n]? with
    | some (.dct false l) => some (.ok ⟨l.map f, none⟩, M.set n .dead)
    | _ => none
  | _ => none
theorem itE_sem {te : TE} {f : En → Mo DL.D} {g : DL.D × DL.D → DL.D} {J : Addr → Obj → List (Key × V) → It} (e2 : SemE S te f)
    (hJ : ∀ {W : Wd} {a : Addr} {o : Obj} {kvs : List (Key × V)} {l : List (DL.D × DL.D)}, W.H a = some (.frz o (.dK kvs)) → RpK S.K W kvs l → SzH S.K W.H → ItOk S W (J a o kvs) ⟨l.map g, none⟩) :
    SemI0 S (fun σ H R => tLkd te σ H fun x H1 => ∃ d o kvs, x = .ref d ∧ H1 d = some (.frz o (.dK kvs)) ∧ R (J d o kvs) H1) (fun ρ => .bnd (f ρ) (itE g)) := fun W σ ρ R k st h => by
  refine e2 W σ ρ _ k st (Post.imp (Post.bnd h) fun d W1 l1 k1 q v rv => ?_)
  unfold itE at q
  cases rv with
  | dK hs fz r =>
    rcases hs with hs | ⟨o, hs⟩
    · refine .inr ⟨_, _, rfl, hs, True.intro, fun o => ?_⟩
      have le := le_lock (o := o) k1 (u := .dK _) rfl hs fz
      exact ⟨_, o, _, rfl, upd_same, q (W1.lock _ o (.dK _)) le (k1.lock rfl hs fz) rfl _ fun z => hJ upd_same (r.mono le) z⟩
    · exact .inl ⟨_, o, _, rfl, hs, Post.ret k1 q _ fun z => hJ hs r z⟩
  | @ref n a hb =>
    simp only at q
    split at q
    · rename_i l hm
      obtain ⟨kvs, h0, r0⟩ := k1.ob _ _ _ hb hm
      refine .inr ⟨_, _, rfl, h0, True.intro, fun o => ?_⟩
      have le := le_put (K := S.K) (ho := .frz o (.dK kvs)) (o := .dead) k1 hb hm (by intro z; cases z)
      have kp := k1.put (ho := .frz o (.dK kvs)) (o := .dead) hb hm (by intro z; cases z) ⟨_, upd_same, by intro x z; cases z⟩
      exact ⟨a, o, kvs, rfl, upd_same, q (W1.put n a (.frz o (.dK kvs)) .dead) le kp rfl _ fun z => hJ upd_same (r0.mono le) z⟩
    · exact q.elim
  | dT hs fz qs r => exact (show False from q).elim
  | _ => exact (show False from q).elim
theorem ix_vals {tg e : Expr} {apos cpos : Pos} {f : En → Mo DL.D} (he : EX S e f) (hbase : ∀ env : PySem.Env, attributeBase e "values" env (eval e env) = eval e env := by intro; rfl) (hline : (apos.endLine == cpos.line) = true := by rfl) :
    IX S tg (.Call (.Attribute e "values" apos) [] [] cpos) (fun ρ => .bnd (f ρ) (itE (·.2))) := by
  obtain ⟨te, e1, e2⟩ := he.ex
  exact ix_mk (wi := iVals (tLkd te)) (fun X c => pi_values (pe_lkd (e1 X c)) (hbase X.env) hline) (itE_sem e2 fun h r z => itok_dV h r z)
theorem ix_items {elts : List Expr} {kk : Nat} {tpos : Pos} {e : Expr} {apos cpos : Pos} {f : En → Mo DL.D} (he : EX S e f) (hbase : ∀ env : PySem.Env, attributeBase e "items" env (eval e env) = eval e env := by intro; rfl) (hline : (apos.endLine == cpos.line) = true := by rfl) :
    IX S (.Tuple elts kk tpos) (.Call (.Attribute e "items" apos) [] [] cpos) (fun ρ => .bnd (f ρ) (itE fun p => .tup [p.1, p.2])) := by
  obtain ⟨te, e1, e2⟩ := he.ex
  exact ix_mk (wi := iItems (tLkd te)) (fun X c => pi_items (pe_lkd (e1 X c)) (hbase X.env) hline) (itE_sem e2 fun h r z => itok_dI h r z)
end
end DL
namespace DL
open PySem PySem.Spec PyProof.Rows L2
section
variable {S : SC}
theorem sws_sc {X : Cx} (c : InC S X) (tg : List Expr) (v : Expr) : swappedStores tg v X.env = swappedStores tg v { scope := S.sc, locals := 0, globals := 0, cells := [] } := by
  have e : swappedStores tg v X.env = swappedStores tg v { scope := X.env.scope, locals := 0, globals := 0, cells := [] } := rfl
  rw [e, c.sc]
def blkB (N : List Str) (sc scope : Scope) (own : List (Str × Nat)) : Bool := scope.kind == .function && (scope.names.all fun y => scope.names.lookup y.1 == some y.2) && (own.all fun p => N[p.2]? == some p.1) &&
  (scope.names.all fun y => !(y.2 == .free) || (sc.names.lookup y.1 == some .cell) || (sc.names.lookup y.1 == some .free)) && scope.names.all fun y => !(y.2 == .local || y.2 == .cell) || (own.map (·.1)).contains y.1 || !N.contains y.1
theorem blk_ok {N : List Str} {sc scope : Scope} {own : List (Str × Nat)} (h : blkB N sc scope own = true) : BlkOk N sc scope own := by
  unfold blkB at h
  simp only [Bool.and_eq_true] at h
  obtain ⟨⟨⟨⟨h1, h2⟩, h3⟩, h4⟩, h5⟩ := h
  refine ⟨by simpa using h1, fun y hy => by simpa using List.all_eq_true.mp h2 y hy, fun p hp => by simpa using List.all_eq_true.mp h3 p hp, fun y hy e => ?_, fun y hy e => ?_⟩
  · have z := List.all_eq_true.mp h4 y hy
    rw [e] at z
    simpa using z
  · have z := List.all_eq_true.mp h5 y hy
    rcases e with e | e
    all_goals
      rw [e] at z
      simp at z
      rcases z with z | z
      · left
        simpa using z
      · right
        simpa using z
theorem nd_of {N : List Str} (h : (decide N.Nodup) = true) : N.Nodup := of_decide_eq_true h
def stL (l : List DL.D) (y : DL.D) : Option (List DL.D) := if l.length < sizeLine then some (l ++ [y]) else none
def stD (t : Bool) (l : List (DL.D × DL.D)) (y : DL.D × DL.D) : Option (List (DL.D × DL.D)) := if l.length < sizeLine then putB t l y.1 y.2 else none
theorem par_ok {P : List Str} {sc : Scope} (h : (P.all fun x => sc.names.lookup x == some .local || sc.names.lookup x == some .cell) = true) : ∀ x ∈ P, sc.names.lookup x = some .local ∨ sc.names.lookup x = some .cell := fun x hx => by simpa using List.all_eq_true.mp h x hx
theorem nofree_ok {sc : Scope} (h : (sc.names.all fun y => !(y.2 == .free)) = true) : ∀ y ∈ sc.names, y.2 ≠ .free := fun y hy => by simpa using List.all_eq_true.mp h y hy
theorem fnd_stuck {T : TP} {k : Nat} {f : Addr} {fd : FuncData} {ps : List Str} : FnD T k f fd ps (fun _ => .stuck) :=
  ⟨fun vs H Q E h => h.1, fun A outer s H args us vs Q E hr he hb hv hs => let ⟨_, _, _, _, _, _, post⟩ := hs; (show False from post).elim⟩
theorem sw_s {X : Cx} {elt : Expr} {gs : List Comprehension} {scope : Scope} {pos py : Pos} {y : Str} {l : Nat} (c : InC S X) (hk : S.sc.kind = .function) (hy : S.sc.names.lookup y = some .local) (h : swB S scope y py.line pos.line = true) : swapsWith (.SetComp elt gs scope pos) (some (.Name y py)) l X.env = pure true :=
  sw_lc (elt := elt) (gs := gs) (l := l) c hk hy h
theorem sw_sF {X : Cx} {elt : Expr} {gs : List Comprehension} {scope : Scope} {pos py : Pos} {y : Str} {l : Nat} (c : InC S X) (h : swB S scope y py.line pos.line = false) : swapsWith (.SetComp elt gs scope pos) (some (.Name y py)) l X.env = pure false :=
  sw_lcF (elt := elt) (gs := gs) (l := l) c h
theorem sw_sC {X : Cx} {elt : Expr} {gs : List Comprehension} {scope : Scope} {pos py : Pos} {y : Str} {l : Nat} (c : InC S X) (h : S.sc.names.lookup y = some .cell) : swapsWith (.SetComp elt gs scope pos) (some (.Name y py)) l X.env = pure false :=
  sw_lcC (elt := elt) (gs := gs) (l := l) c h
theorem ln0 : ∀ (M : Mem) (ds : List DL.D) (M' : Mem), (Mo.ret ([] : List DL.D)) M = some (.ok ds, M') → ds.length = 0 := fun M ds M' h => by cases h; rfl
def par3 (i j l : Nat) (ρ : En) : List DL.D → Mem → Option (Fl × Mem)
  | [a, b, c], M => some (.nx (((ρ.set i (some a)).set j (some b)).set l (some c)), M)
  | _, _ => none
end
end DL
namespace DL
open PySem PySem.Spec PyProof.Rows L2
theorem rpa_ints' {K : KP} {W : Wd} : ∀ ns : List Int, RpA K W (ns.map V.int) (ns.map .int)
  | [] => .nil
  | n :: ns => .cons (.int n) (rpa_ints' ns)
theorem lawAt_of {l : PySem.W.OpenLaw} {w : World} {K : PySem.W.Frag} {mg : Str → Option Value} {f : Addr} {h : Heap} {n k : Nat} {x : Str} {tf : List He.Defn} {F : List D → Mo D} {fd : FuncData} (KX : K.In h)
    (hd : ∀ p ∈ tf, PySem.W.codeHdIn K (He.cT K p).1 (He.cT K p).2 = true) (out : ∀ p ∈ tf, K.lookup (He.cT K p).2 = none) (empty : ∀ p ∈ tf, h.get? (He.cT K p).2 = some { cls := .none, data := .fields #[] })
    (hb : ∀ (s : Shared) (u : Value), BindsTo s fd ⟨[u], []⟩ [(x, u)])
    (hF : ∀ base : Heap, K.In base → base.Ns mainGlobals mg → (∀ p ∈ tf.map (He.cT K), GxR.TabB base mg p.1 p.2) → FnD ⟨l.prog, w, K, mg, base, tf.map (He.cT K), []⟩ k f fd [x] F)
    (law : ∀ ns : List Int, ns.length ≤ n → (∀ z ∈ ns, Builtin.Int.intBits z ≤ 1048576) → ∃ M', F [.lst (ns.map .int)] [] = some (.ok (.bl true), M')) : LamX.LawAtS l w K (L2N.CX l.prog w) k n x mg f h := by
  have mem : ∀ p ∈ tf.map (He.cT K), ∃ q ∈ tf, He.cT K q = p := fun p hp => by simpa using hp
  refine ⟨fd, tf.map (He.cT K), SpF ⟨l.prog, w, K, mg, h, tf.map (He.cT K), []⟩ 1 F, fun p hp => ?_, fun p hp => ?_, fun p hp => ?_, hb, fun H a ns hl hbits hH hS => ?_, fun base B N TB => hF base B N fun p hp => ⟨(TB p hp).code, (TB p hp).bm, (TB p hp).gP⟩⟩
  · obtain ⟨q, hq, rfl⟩ := mem p hp; exact empty q hq
  · obtain ⟨q, hq, rfl⟩ := mem p hp; exact out q hq
  · obtain ⟨q, hq, rfl⟩ := mem p hp; exact PySem.W.codeHd_of_K KX (hd q hq)
  · obtain ⟨M', e⟩ := law ns hl hbits
    have fz : Wd.frz ⟨[], [], H, []⟩ a := ⟨fun n h => by simp at h, by simp⟩
    refine ⟨rfl, ⟨[], [], H, []⟩, [.lst (ns.map .int)], ⟨rfl, List.nodup_nil, (fun n a o h => by simp at h), (fun a h => by cases h), (fun a h => by cases h), (fun a h => ⟨?_, by simp, by simp⟩), fun a h => by cases h⟩, rfl, .one ?_, ?_⟩
    · obtain ⟨p, hp, rfl⟩ := List.mem_map.mp h
      exact ⟨#[], hH p hp, True.intro⟩
    · rcases hS with hS | hS
      · exact .lst hS fz (rpa_ints' ns)
      · exact .lstK hS (rpa_ints' ns)
    · show PostC _ _ (F [.lst (ns.map .int)] []) _ _
      rw [e]
      intro W' l' k' m' v rv
      exact rp_bl rv
def lamsL (K : PySem.W.Frag) (tl : List (He.Defn × Str)) : List (Addr × Str) := tl.map fun p => ((He.cT K p.1).2, p.2)
/-- tables of lambdas stand apart -/
def lamsB (K : PySem.W.Frag) (tg tl : List He.Defn) : Bool := decide ((tl.map fun p => (He.cT K p).2).Nodup) && decide (∀ p ∈ tl, ∀ q ∈ tg, (He.cT K p).2 ≠ (He.cT K q).2)
/-- the same, where defs make lambdas -/
theorem lawAt_ofL {l : PySem.W.OpenLaw} {w : World} {K : PySem.W.Frag} {mg : Str → Option Value} {f : Addr} {h : Heap} {n k : Nat} {x : Str} {tg : List He.Defn} {tl : List (He.Defn × Str)} {tf : List He.Defn} {F : List D → Mo D} {fd : FuncData} (KX : K.In h) (htf : tf = tg ++ tl.map (·.1)) (hlb : lamsB K tg (tl.map (·.1)) = true)
    (hd : ∀ p ∈ tf, PySem.W.codeHdIn K (He.cT K p).1 (He.cT K p).2 = true) (out : ∀ p ∈ tf, K.lookup (He.cT K p).2 = none) (empty : ∀ p ∈ tf, h.get? (He.cT K p).2 = some { cls := .none, data := .fields #[] })
    (hb : ∀ (s : Shared) (u : Value), BindsTo s fd ⟨[u], []⟩ [(x, u)])
    (hF : ∀ base : Heap, K.In base → base.Ns mainGlobals mg → (∀ p ∈ tf.map (He.cT K), GxR.TabB base mg p.1 p.2) → FnD ⟨l.prog, w, K, mg, base, tg.map (He.cT K), lamsL K tl⟩ k f fd [x] F)
    (law : ∀ ns : List Int, ns.length ≤ n → (∀ z ∈ ns, Builtin.Int.intBits z ≤ 1048576) → ∃ M', F [.lst (ns.map .int)] [] = some (.ok (.bl true), M')) : LamX.LawAtS l w K (L2N.CX l.prog w) k n x mg f h := by
  have mem : ∀ p ∈ tf.map (He.cT K), ∃ q ∈ tf, He.cT K q = p := fun p hp => by simpa using hp
  refine ⟨fd, tf.map (He.cT K), SpF ⟨l.prog, w, K, mg, h, tg.map (He.cT K), lamsL K tl⟩ 1 F, fun p hp => ?_, fun p hp => ?_, fun p hp => ?_, hb, fun H a ns hl hbits hH hS => ?_, fun base B N TB => hF base B N fun p hp => ⟨(TB p hp).code, (TB p hp).bm, (TB p hp).gP⟩⟩
  · obtain ⟨q, hq, rfl⟩ := mem p hp; exact empty q hq
  · obtain ⟨q, hq, rfl⟩ := mem p hp; exact out q hq
  · obtain ⟨q, hq, rfl⟩ := mem p hp; exact PySem.W.codeHd_of_K KX (hd q hq)
  · obtain ⟨M', e⟩ := law ns hl hbits
    have fz : Wd.frz ⟨[], [], H, []⟩ a := ⟨fun n h => by simp at h, by simp⟩
    refine ⟨rfl, ⟨[], [], H, []⟩, [.lst (ns.map .int)], ⟨rfl, List.nodup_nil, (fun n a o h => by simp at h), (fun a h => by cases h), (fun a h => by cases h), (fun a h => ⟨?_, by simp, by simp⟩), fun p h => ⟨?_, by simp, by simp, ?_, ?_⟩⟩, rfl, .one ?_, ?_⟩
    · obtain ⟨p, hp, rfl⟩ := List.mem_map.mp h
      obtain ⟨q, hq, rfl⟩ := List.mem_map.mp hp
      exact ⟨#[], hH _ (List.mem_map_of_mem (by rw [htf]; exact List.mem_append_left _ hq)), True.intro⟩
    · obtain ⟨r, hr, rfl⟩ := List.mem_map.mp h
      refine ⟨#[], hH (He.cT K r.1) (List.mem_map_of_mem (by rw [htf]; exact List.mem_append_right _ (List.mem_map_of_mem hr))), True.intro, fun pos cv hc => ?_⟩
      have hc : codeAmong pos [] = some cv := hc
      cases hc
    · obtain ⟨r, hr, rfl⟩ := List.mem_map.mp h
      intro hm
      obtain ⟨b, hb, e⟩ := List.mem_map.mp hm
      obtain ⟨q, hq, rfl⟩ := List.mem_map.mp hb
      unfold lamsB at hlb
      rw [Bool.and_eq_true] at hlb
      exact of_decide_eq_true hlb.2 r.1 (List.mem_map_of_mem hr) q hq e.symm
    · obtain ⟨r, hr, rfl⟩ := List.mem_map.mp h
      intro x hx e
      obtain ⟨r', hr', rfl⟩ := List.mem_map.mp hx
      unfold lamsB at hlb
      rw [Bool.and_eq_true] at hlb
      have nd := of_decide_eq_true hlb.1
      rw [List.map_map] at nd
      have : r' = r := by
        obtain ⟨i, hi, ei⟩ := List.getElem_of_mem hr
        obtain ⟨j, hj, ej⟩ := List.getElem_of_mem hr'
        have q := (List.getElem_inj nd (i := j) (j := i) (h₀ := by simpa using hj) (h₁ := by simpa using hi)).mp (by rw [List.getElem_map, List.getElem_map]; simp only [Function.comp, ei, ej]; exact e)
        subst q
        exact ej.symm.trans ei
      rw [this]
    · rcases hS with hS | hS
      · exact .lst hS fz (rpa_ints' ns)
      · exact .lstK hS (rpa_ints' ns)
    · show PostC _ _ (F [.lst (ns.map .int)] []) _ _
      rw [e]
      intro W' l' k' m' v rv
      exact rp_bl rv
theorem cx_end {P : Program} {w : World} {H : Hp} {s : Shared} {e : Value} {s' : Shared} (h : L2N.CX P w [] H s (fun _ _ _ => False) e s') : False := by
  unfold L2N.CX at h
  obtain ⟨_, _, _, _, _, _, _, _, _, _, _, _, q⟩ := h
  exact q
theorem code_of {K : PySem.W.Frag} {x qual : Str} {prm : Arguments} {body : List Stmt} {scope : Scope} {dvs : List V} {kws : List (Str × V)} {p : He.Defn} {fd : FuncData} (F : FunD K x qual prm body scope dvs kws (He.fAd K p) fd) : fd.code = .ref (He.cT K p).1 := by
  obtain ⟨oc, od, dV, kV, doc, pm, an, cdv, ct, osl, rfl, lk, hcd, _, _⟩ := F.ex
  obtain ⟨c, rfl⟩ := He.codeIn_ref hcd
  have e := He.codeOf_eq lk (c := c) rfl
  show Value.ref c = .ref (He.codeOf K p)
  rw [e]
def fdOf (K : PySem.W.Frag) (x : Str) : Option FuncData := match K.lookup (He.ga K x) with
  | some ⟨_, _, .func fd, _⟩ => some fd
  | _ => none
noncomputable def fdAt (K : PySem.W.Frag) (F : FuncData) (x : Str) : FuncData := (fdOf K x).getD F
theorem fd_at {K : PySem.W.Frag} {fa : List He.Fa} {fn : List He.DefD} (c : He.SaysD fa fn K) (F : FuncData) (i : Nat) {d : He.DefD} {x : Str} (h : fn[i]? = some d) (e : d.at_ = (x, none)) : FunD K d.name d.qual d.params d.body d.scope (d.dvs K) (d.kws K) (He.ga K x) (fdAt K F x) := by
  obtain ⟨fd, D⟩ := c.def_ i h
  rw [e] at D
  have q : fdAt K F x = fd := by
    obtain ⟨oc, od, dV, kV, doc, pm, an, cdv, ct, osl, rfl, lk, hcd, _, _⟩ := D.ex
    have lk : K.lookup (He.ga K x) = some _ := lk
    unfold fdAt fdOf
    rw [lk]
    rfl
  rw [q]
  exact D
end DL
namespace DL
open PySem PySem.Spec PyProof.Rows L2
theorem finM_same (M0 M : Mem) (h : M.take M0.length = M0) : finM M0 M = some M0 := if_pos h
theorem finM_id (M : Mem) : finM M M = some M := finM_same M M (by simp)
theorem fin_ok {M0 M : Mem} {d : D} (hd : noref d = true) (h : M.take M0.length = M0) : fin M0 M d = some (.ok d, M0) := by
  unfold fin
  rw [subst_noref hd, finM_same _ _ h]
theorem fnR_ret {M0 M : Mem} {d : D} (hd : noref d = true) (h : M.take M0.length = M0) : fnR M0 (some (.ret d, M)) = some (.ok d, M0) := fin_ok hd h
/-- objects without references -/
def norefO : O → Bool
  | .lst l => norefL l
  | .dct _ l => norefK l
  | .ins _ fs => norefL (fs.map (·.2))
  | .dead => true
theorem frO_noref {f : Nat → Option D} : ∀ {o : O}, norefO o = true → frO f o = some o
  | .lst l, h => by rw [frO, substL_noref h]; rfl
  | .dct t l, h => by rw [frO, substK_noref h]; rfl
  | .ins C fs, h => by rw [frO, substL_noref h]; exact congrArg (fun z => some (O.ins C z)) (zip_self fs)
  | .dead, _ => rfl
theorem mapM_id {α : Type} {f : α → Option α} : ∀ {l : List α}, (∀ a ∈ l, f a = some a) → l.mapM f = some l
  | [], _ => rfl
  | a :: l, h => by
    rw [List.mapM_cons, h a List.mem_cons_self, mapM_id fun b hb => h b (List.mem_cons_of_mem _ hb)]
    rfl
theorem finM_noref {M0 M : Mem} (h : ∀ o ∈ M.take M0.length, norefO o = true) : finM M0 M = some (M.take M0.length) := by
  unfold finM
  by_cases e : M.take M0.length = M0
  · rw [if_pos e, e]
  · rw [if_neg e]
    exact mapM_id fun o ho => frO_noref (h o ho)
theorem fnR_noref {M0 M : Mem} {d : D} (hd : noref d = true) (h : ∀ o ∈ M.take M0.length, norefO o = true) : fnR M0 (some (.ret d, M)) = some (.ok d, M.take M0.length) := by
  show fin M0 M d = _
  unfold fin
  rw [subst_noref hd, finM_noref h]
/-- m runs from M and leaves what Q says -/
def Rn {α : Type} (m : Mo α) (M : Mem) (Q : α → Mem → Prop) : Prop := ∃ a M', m M = some (.ok a, M') ∧ Q a M'
theorem Rn.ret {α : Type} {a : α} {M : Mem} {Q : α → Mem → Prop} (h : Q a M) : Rn (.ret a) M Q := ⟨a, M, rfl, h⟩
theorem Rn.bnd {α β : Type} {m : Mo α} {f : α → Mo β} {M : Mem} {Q : β → Mem → Prop} (h : Rn m M fun a M1 => Rn (f a) M1 Q) : Rn (.bnd m f) M Q := by
  obtain ⟨a, M1, e, b, M2, e2, q⟩ := h
  exact ⟨b, M2, by rw [bnd_of e]; exact e2, q⟩
theorem Rn.imp {α : Type} {m : Mo α} {M : Mem} {Q Q' : α → Mem → Prop} (h : Rn m M Q) (i : ∀ a M', Q a M' → Q' a M') : Rn m M Q' := let ⟨a, M', e, q⟩ := h; ⟨a, M', e, i _ _ q⟩
theorem Rn.of {α : Type} {m : Mo α} {M M' : Mem} {a : α} {Q : α → Mem → Prop} (e : m M = some (.ok a, M')) (q : Q a M') : Rn m M Q := ⟨a, M', e, q⟩
/-- a statement runs -/
def Rs' (g : Sn) (ρ : En) (M : Mem) (Q : Fl → Mem → Prop) : Prop := ∃ f M', g ρ M = some (f, M') ∧ Q f M'
theorem Rs'.sE {α : Type} {m : Mo α} {ρ ρ' : En} {f : α → Mem → Option (Fl × Mem)} {M : Mem} {Q : Fl → Mem → Prop} (h : Rn m M fun a M1 => ∃ fl M', f a M1 = some (fl, M') ∧ Q fl M') : ∃ fl M', sE m ρ f M = some (fl, M') ∧ Q fl M' := by
  obtain ⟨a, M1, e, fl, M', e2, q⟩ := h
  refine ⟨fl, M', ?_, q⟩
  unfold DL.sE
  rw [e]
  exact e2
theorem Rs'.seq {g1 g2 : Sn} {ρ : En} {M : Mem} {Q : Fl → Mem → Prop} (h : Rs' g1 ρ M fun fl M1 => match fl with | .nx ρ1 => Rs' g2 ρ1 M1 Q | fl => Q fl M1) : Rs' (sSeq g1 g2) ρ M Q := by
  obtain ⟨fl, M1, e, q⟩ := h
  unfold Rs' sSeq
  rw [e]
  cases fl with
  | nx ρ1 => exact q
  | _ => exact ⟨_, _, rfl, q⟩
end DL
namespace DL
open PySem
mutual
/-- ints, texts, None, tuples and lists of such -/
def pl : D → Bool
  | .non => true
  | .int _ => true
  | .str x => (PyData.str x).canLay0
  | .tup l => plL l
  | .lst l => plL l
  | _ => false
def plL : List D → Bool
  | [] => true
  | d :: r => pl d && plL r
end
mutual
/-- how deep -/
def dpt : D → Nat
  | .tup l => dptL l + 1
  | .lst l => dptL l + 1
  | _ => 0
def dptL : List D → Nat
  | [] => 0
  | d :: r => max (dpt d) (dptL r)
end
theorem plL_all : ∀ {l : List D}, plL l = true ↔ ∀ d ∈ l, pl d = true
  | [] => by simp [plL]
  | d :: r => by simp [plL, plL_all (l := r)]
mutual
theorem py_pl : ∀ {d : D}, pl d = true → py d = some (enc d)
  | .non, _ => rfl
  | .int i, _ => rfl
  | .str x, _ => rfl
  | .tup l, h => by
    have e := pyL_pl (l := l) h
    unfold enc
    rw [py, e]; rfl
  | .lst l, h => by
    have e := pyL_pl (l := l) h
    unfold enc
    rw [py, e]; rfl
  | .bl _, h => by cases h
  | .dct _ _, h => by cases h
  | .ref _, h => by cases h
  | .obj _, h => by cases h
  | .ty _, h => by cases h
  | .set _, h => by cases h
  | .seti _, h => by cases h
theorem pyL_pl : ∀ {l : List D}, plL l = true → pyL l = some (l.map enc)
  | [], _ => rfl
  | d :: r, h => by
    simp only [plL, Bool.and_eq_true] at h
    rw [pyL, py_pl h.1, pyL_pl h.2]
    rfl
end
theorem enc_tup {l : List D} (h : plL l = true) : enc (.tup l) = .tuple (l.map enc) := by
  unfold enc; rw [py, pyL_pl h]; rfl
theorem enc_lst {l : List D} (h : plL l = true) : enc (.lst l) = .list (l.map enc) := by
  unfold enc; rw [py, pyL_pl h]; rfl
mutual
theorem eqv_pl : ∀ {a b : D}, pl a = true → pl b = true → (PyData.eqv (enc a) (enc b) = true ↔ a = b)
  | .non, b, _, hb => by
    cases b <;> first
      | (cases hb; done)
      | (simp [enc, py, PyData.eqv]; done)
      | (rw [show enc (.tup _) = _ from enc_tup hb]; simp [enc, py, PyData.eqv]; done)
      | (rw [show enc (.lst _) = _ from enc_lst hb]; simp [enc, py, PyData.eqv]; done)
  | .int i, b, _, hb => by
    cases b <;> first
      | (cases hb; done)
      | (simp [enc, py, PyData.eqv]; done)
      | (rw [show enc (.tup _) = _ from enc_tup hb]; simp [enc, py, PyData.eqv]; done)
      | (rw [show enc (.lst _) = _ from enc_lst hb]; simp [enc, py, PyData.eqv]; done)
  | .str x, b, _, hb => by
    cases b <;> first
      | (cases hb; done)
      | (simp [enc, py, PyData.eqv]; done)
      | (rw [show enc (.tup _) = _ from enc_tup hb]; simp [enc, py, PyData.eqv]; done)
      | (rw [show enc (.lst _) = _ from enc_lst hb]; simp [enc, py, PyData.eqv]; done)
  | .tup l, b, ha, hb => by
    have ih := fun (m : List D) (hm : plL m = true) => eqvL_pl (a := l) (b := m) ha hm
    rw [enc_tup ha]
    cases b with
    | tup m => rw [enc_tup hb, PyData.eqv, ih m hb]; simp
    | lst m => rw [enc_lst hb]; simp [PyData.eqv]
    | non => simp [enc, py, PyData.eqv]
    | int i => simp [enc, py, PyData.eqv]
    | str x => simp [enc, py, PyData.eqv]
    | _ => cases hb
  | .lst l, b, ha, hb => by
    have ih := fun (m : List D) (hm : plL m = true) => eqvL_pl (a := l) (b := m) ha hm
    rw [enc_lst ha]
    cases b with
    | lst m => rw [enc_lst hb, PyData.eqv, ih m hb]; simp
    | tup m => rw [enc_tup hb]; simp [PyData.eqv]
    | non => simp [enc, py, PyData.eqv]
    | int i => simp [enc, py, PyData.eqv]
    | str x => simp [enc, py, PyData.eqv]
    | _ => cases hb
  | .bl _, _, h, _ => by cases h
  | .dct _ _, _, h, _ => by cases h
  | .ref _, _, h, _ => by cases h
  | .obj _, _, h, _ => by cases h
  | .ty _, _, h, _ => by cases h
  | .set _, _, h, _ => by cases h
  | .seti _, _, h, _ => by cases h
theorem eqvL_pl : ∀ {a b : List D}, plL a = true → plL b = true → (PyData.eqvAll (a.map enc) (b.map enc) = true ↔ a = b)
  | [], [], _, _ => by simp [PyData.eqvAll]
  | [], _ :: _, _, _ => by simp [PyData.eqvAll]
  | _ :: _, [], _, _ => by simp [PyData.eqvAll]
  | x :: a, y :: b, ha, hb => by
    simp only [plL, Bool.and_eq_true] at ha hb
    rw [List.map_cons, List.map_cons, PyData.eqvAll, Bool.and_eq_true, eqv_pl ha.1 hb.1, eqvL_pl ha.2 hb.2, List.cons.injEq]
end
mutual
theorem lay_pl : ∀ {d : D}, pl d = true → (enc d).canLay0 = true ∧ (enc d).depth = dpt d
  | .non, _ => ⟨rfl, rfl⟩
  | .int i, _ => ⟨rfl, rfl⟩
  | .str x, h => ⟨h, rfl⟩
  | .tup l, h => by
    obtain ⟨h1, h2⟩ := layL_pl (l := l) h
    rw [enc_tup h]
    exact ⟨h1, by rw [PyData.depth, h2, dpt]⟩
  | .lst l, h => by
    obtain ⟨h1, h2⟩ := layL_pl (l := l) h
    rw [enc_lst h]
    exact ⟨h1, by rw [PyData.depth, h2, dpt]⟩
  | .bl _, h => by cases h
  | .dct _ _, h => by cases h
  | .ref _, h => by cases h
  | .obj _, h => by cases h
  | .ty _, h => by cases h
  | .set _, h => by cases h
  | .seti _, h => by cases h
theorem layL_pl : ∀ {l : List D}, plL l = true → PyData.canLayAll0 (l.map enc) = true ∧ PyData.depthAll (l.map enc) = dptL l
  | [], _ => ⟨rfl, rfl⟩
  | d :: r, h => by
    simp only [plL, Bool.and_eq_true] at h
    obtain ⟨a1, a2⟩ := lay_pl h.1
    obtain ⟨b1, b2⟩ := layL_pl h.2
    rw [List.map_cons, PyData.canLayAll0, a1, b1, PyData.depthAll, a2, b2, dptL]
    exact ⟨rfl, rfl⟩
end
def okD (d : D) : Prop := pl d = true ∧ dpt d ≤ 64
theorem okD.shaped {d : D} (h : okD d) : SeqAt.shaped (enc d) = true := by
  obtain ⟨h1, h2⟩ := lay_pl h.1
  unfold SeqAt.shaped
  rw [h1, h2, decide_eq_true h.2]; rfl
theorem res_pl {M : Mem} : ∀ {d : D}, pl d = true → res M d = d
  | .ref _, h => by cases h
  | .non, _ | .int _, _ | .str _, _ | .tup _, _ | .lst _, _ => rfl
  | .bl _, h => by cases h
  | .dct _ _, h => by cases h
  | .obj _, h => by cases h
  | .ty _, h => by cases h
  | .set _, h => by cases h
  | .seti _, h => by cases h
open Classical in
theorem eqB_pl {M : Mem} {a b : D} (ha : okD a) (hb : okD b) : eqB M a b = some (decide (a = b)) := by
  unfold eqB
  rw [res_pl ha.1, res_pl hb.1, py_pl ha.1, py_pl hb.1]
  simp only [ha.shaped, hb.shaped, and_self, if_true]
  congr 1
  rw [Bool.eq_iff_iff, eqv_pl ha.1 hb.1, decide_eq_true_iff]
open Classical in
theorem eqD_pl {a b : D} (ha : okD a) (hb : okD b) : eqD a b = .ret (.bl (decide (a = b))) := by
  funext M; unfold eqD; rw [eqB_pl ha hb]; rfl
open Classical in
theorem neD_pl {a b : D} (ha : okD a) (hb : okD b) : neD a b = .ret (.bl (!decide (a = b))) := by
  funext M; unfold neD; rw [eqB_pl ha hb]; rfl
theorem any_eqv {x : D} (hx : pl x = true) : ∀ {l : List D}, plL l = true → (((l.map enc).any fun z => PyData.eqv z (enc x)) = true ↔ x ∈ l)
  | [], _ => by simp
  | d :: r, h => by
    simp only [plL, Bool.and_eq_true] at h
    rw [List.map_cons, List.any_cons, Bool.or_eq_true, any_eqv hx h.2, eqv_pl h.1 hx, List.mem_cons]
    exact ⟨fun h => h.imp Eq.symm id, fun h => h.imp Eq.symm id⟩
open Classical in
theorem inB_pl {M : Mem} {x y : D} {l : List D} (hx : okD x) (hy : okD (.lst l)) (h : seqB M y = some l) : inB M x y = some (decide (x ∈ l)) := by
  have hl : plL l = true := hy.1
  unfold inB
  rw [h]
  simp only [res_pl hx.1, py_pl hx.1, pyL_pl hl]
  have hs : SeqAt.shaped (PyData.list (l.map enc)) = true := by rw [← enc_lst hl]; exact hy.shaped
  simp only [hx.shaped, hs, and_self, if_true]
  congr 1
  rw [Bool.eq_iff_iff, any_eqv hx.1 hl, decide_eq_true_iff]
open Classical in
theorem inAll_pl {x : D} {l : List D} (hx : okD x) (hy : okD (.lst l)) : inAll x (.lst l) = .ret (.bl (decide (x ∈ l))) ∧ inAll x (.tup l) = .ret (.bl (decide (x ∈ l))) := by
  constructor
  all_goals
    funext M
    unfold inAll inD
    rw [inB_pl hx hy (by rfl)]
    rfl
end DL
namespace DL
open PySem
theorem getV_at {ρ : En} {i : Nat} {d : D} (h : ρ[i]? = some (some d)) : getV ρ i = .ret d := getV_some h
@[simp] theorem arg1_one (g : D → Mo D) (d : D) : arg1 g [d] = g d := rfl
@[simp] theorem arg2_two (g : D → D → Mo D) (d e : D) : arg2 g [d, e] = g d e := rfl
@[simp] theorem boolD_bl (b : Bool) : boolD (.bl b) = .ret b := rfl
@[simp] theorem sE_r {α : Type} (a : α) (ρ : En) (f : α → Mem → Option (Fl × Mem)) : sE (.ret a) ρ f = f a := rfl
@[simp] theorem s0_r (ρ : En) : s0 (.ret ρ) = fun M => some (.nx ρ, M) := rfl
theorem seq_nx {g1 g2 : Sn} {ρ ρ1 : En} (h : g1 ρ = fun M => some (.nx ρ1, M)) : sSeq g1 g2 ρ = g2 ρ1 := by
  funext M; unfold sSeq; rw [h]
theorem seq_ret {g1 g2 : Sn} {ρ : En} {d : D} (h : g1 ρ = fun M => some (.ret d, M)) : sSeq g1 g2 ρ = fun M => some (.ret d, M) := by
  funext M; unfold sSeq; rw [h]
theorem seq_exc {g1 g2 : Sn} {ρ ρ1 : En} {x : Str} (h : g1 ρ = fun M => some (.exc x ρ1, M)) : sSeq g1 g2 ρ = fun M => some (.exc x ρ1, M) := by
  funext M; unfold sSeq; rw [h]
theorem if_ret {c : En → Mo Bool} {g1 g2 : Sn} {ρ : En} {b : Bool} (h : c ρ = .ret b) : sIf c g1 g2 ρ = cond b (g1 ρ) (g2 ρ) := by
  funext M; unfold sIf; rw [h]; cases b <;> rfl
theorem isi_int (i : Int) (n : String) {c : Cl} (h : clOf n = some c) : isiD (.int i) (.ty n) = .ret (.bl (decide (c = .int))) := by
  funext M; unfold isiD; simp only [h]; rfl
theorem isi_bl (b : Bool) (n : String) {c : Cl} (h : clOf n = some c) : isiD (.bl b) (.ty n) = .ret (.bl (decide (c = .bool) || decide (c = .int))) := by
  funext M; unfold isiD; simp only [h]; rfl
theorem isi_non (n : String) {c : Cl} (h : clOf n = some c) : isiD .non (.ty n) = .ret (.bl false) := by
  funext M; unfold isiD; simp only [h]; rfl
theorem isi_str (x : Str) (n : String) {c : Cl} (h : clOf n = some c) : isiD (.str x) (.ty n) = .ret (.bl (decide (c = .str))) := by
  funext M; unfold isiD; simp only [h]; rfl
theorem isi_tup (l : List D) (n : String) {c : Cl} (h : clOf n = some c) : isiD (.tup l) (.ty n) = .ret (.bl (decide (c = .tuple))) := by
  funext M; unfold isiD; simp only [h]; rfl
theorem isi_lst (l : List D) (n : String) {c : Cl} (h : clOf n = some c) : isiD (.lst l) (.ty n) = .ret (.bl (decide (c = .list))) := by
  funext M; unfold isiD; simp only [h]; rfl
theorem cl_int : clOf "int" = some .int := rfl
theorem cl_bool : clOf "bool" = some .bool := rfl
theorem cl_str : clOf "str" = some .str := rfl
theorem cl_tuple : clOf "tuple" = some .tuple := rfl
theorem cl_list : clOf "list" = some .list := rfl
@[simp] theorem add_int (i j : Int) : addD (.int i) (.int j) = .ret (.int (i + j)) := rfl
@[simp] theorem sub_int (i j : Int) : subD (.int i) (.int j) = .ret (.int (i - j)) := rfl
theorem mul_int {i j : Int} (h : mulOk i j = true) : mulD (.int i) (.int j) = .ret (.int (i * j)) := by unfold mulD; simp only [h]; rfl
theorem fdiv_int {i j : Int} (h : fdivOk j = true) : fdivD (.int i) (.int j) = .ret (.int (i.fdiv j)) := by unfold fdivD intOp; simp only [h]; rfl
theorem mod_int {i j : Int} (h : j ≠ 0) : modD (.int i) (.int j) = .ret (.int (i.fmod j)) := by unfold modD intOp; simp only [h, ne_eq, not_false_eq_true, decide_true]; rfl
@[simp] theorem neg_int (i : Int) : negD (.int i) = .ret (.int (-i)) := rfl
@[simp] theorem le_int (i j : Int) : leD (.int i) (.int j) = .ret (.bl (decide (i ≤ j))) := rfl
@[simp] theorem gt_int (i j : Int) : gtD (.int i) (.int j) = .ret (.bl (decide (j < i))) := rfl
@[simp] theorem ge_int (i j : Int) : geD (.int i) (.int j) = .ret (.bl (decide (j ≤ i))) := rfl
@[simp] theorem lt_int (i j : Int) : ltD (.int i) (.int j) = .ret (.bl (decide (i < j))) := by
  funext M; unfold ltD
  simp only [res, py]
  rw [if_pos ⟨rfl, by show 0 ≤ 64; decide⟩]; rfl
theorem beq_dc (i j : Int) : (i == j) = decide (i = j) := by rw [Bool.eq_iff_iff]; simp
@[simp] theorem eq_int (i j : Int) : eqD (.int i) (.int j) = .ret (.bl (decide (i = j))) := by
  funext M; unfold eqD eqB
  simp only [res, py]
  rw [if_pos ⟨rfl, rfl⟩]
  show some (Except.ok (D.bl (i == j)), M) = _
  rw [beq_dc]; rfl
@[simp] theorem ne_int (i j : Int) : neD (.int i) (.int j) = .ret (.bl (decide (i ≠ j))) := by
  funext M; unfold neD eqB
  simp only [res, py]
  rw [if_pos ⟨rfl, rfl⟩]
  show some (Except.ok (D.bl (!(i == j))), M) = _
  rw [beq_dc, ← decide_not]; rfl
@[simp] theorem eq_bl (i j : Bool) : eqD (.bl i) (.bl j) = .ret (.bl (i == j)) := by
  funext M; unfold eqD eqB
  simp only [res, py]
  rw [if_pos ⟨rfl, rfl⟩]; rfl
@[simp] theorem is_bl (i j : Bool) : isD (.bl i) (.bl j) = .ret (.bl (decide (i = j))) := rfl
@[simp] theorem isn_bl (i j : Bool) : isnD (.bl i) (.bl j) = .ret (.bl (!decide (i = j))) := rfl
@[simp] theorem abs_int (i : Int) : absD (.int i) = .ret (.int (if i < 0 then -i else i)) := rfl
@[simp] theorem int_int (i : Int) : intD (.int i) = .ret (.int i) := rfl
@[simp] theorem gcd_int (i j : Int) : gcdD (.int i) (.int j) = .ret (.int ((Nat.gcd i.natAbs j.natAbs : Nat) : Int)) := rfl
@[simp] theorem min_int (i j : Int) : minD2 (.int i) (.int j) = .ret (.int (if j < i then j else i)) := rfl
@[simp] theorem max_int (i j : Int) : maxD2 (.int i) (.int j) = .ret (.int (if j > i then j else i)) := rfl
@[simp] theorem len_tup (l : List D) : lenD (.tup l) = .ret (.int l.length) := rfl
@[simp] theorem len_lst (l : List D) : lenD (.lst l) = .ret (.int l.length) := rfl
theorem tup_ok {l : List D} (h : l.length ≤ sizeLine) : tupD l = .ret (.tup l) := by unfold tupD lenOk; rw [decide_eq_true h]; rfl
theorem lst_ok {l : List D} (h : l.length ≤ sizeLine) : lstD l = .ret (.lst l) := by unfold lstD lenOk; rw [decide_eq_true h]; rfl
theorem sub_tup {l : List D} {i : Int} {d : D} (h : atD l i = some d) : subD' (.tup l) (.int i) = .ret d := by
  funext M; unfold subD'; simp only [res, h]; rfl
theorem sub_lst {l : List D} {i : Int} {d : D} (h : atD l i = some d) : subD' (.lst l) (.int i) = .ret d := by
  funext M; unfold subD'; simp only [res, h]; rfl
theorem atD_nat {l : List D} {n : Nat} {d : D} (h : l[n]? = some d) : atD l (n : Int) = some d := by
  have hn : n < l.length := (List.getElem?_eq_some_iff.mp h).1
  unfold atD L2.ixN
  rw [if_pos (Int.natCast_nonneg n), if_pos (by omega)]
  simpa using h
@[simp] theorem tupleD_lst (l : List D) : tupleD (.lst l) = .ret (.tup l) := rfl
theorem items_ok {l : List D} {n : Nat} (h : l.length = n) : itemsT n (.tup l) = .ret l := by show cond (decide (l.length = n)) (Mo.ret l) Mo.stuck = _; rw [decide_eq_true h]; rfl
theorem add_lst {a b : List D} (h : a.length + b.length ≤ sizeLine) : addD (.lst a) (.lst b) = .ret (.lst (a ++ b)) := by
  funext M; unfold addD lenOk; simp only [res]; rw [decide_eq_true h]; rfl
@[simp] theorem itD_tup (l : List D) : itD (.tup l) = .ret ⟨l, none⟩ := rfl
@[simp] theorem itD_lst (l : List D) : itD (.lst l) = .ret ⟨l, none⟩ := rfl
/-- a def that touches nothing -/
theorem fnD_pure {N : List Str} {g : Sn} {ds : List D} {d : D} (h : g (startE N ds) = fun M => some (.ret d, M)) (hd : noref d = true) : fnD N g ds = .ret d := by
  funext M
  unfold fnD
  rw [h]
  exact fnR_ret hd (by simp)
/-- isinstance of a value with a known class -/
def isK (n : String) : D → Bool
  | .int _ => n == "int"
  | .bl _ => n == "bool" || n == "int"
  | .str _ => n == "str"
  | .tup _ => n == "tuple"
  | .lst _ => n == "list"
  | _ => false
section
variable (i : Int) (b : Bool) (x : Str) (l : List D)
@[simp] theorem k_int_int : isiD (.int i) (.ty "int") = .ret (.bl true) := isi_int i _ cl_int
@[simp] theorem k_int_bool : isiD (.int i) (.ty "bool") = .ret (.bl false) := isi_int i _ cl_bool
@[simp] theorem k_int_str : isiD (.int i) (.ty "str") = .ret (.bl false) := isi_int i _ cl_str
@[simp] theorem k_int_tup : isiD (.int i) (.ty "tuple") = .ret (.bl false) := isi_int i _ cl_tuple
@[simp] theorem k_int_lst : isiD (.int i) (.ty "list") = .ret (.bl false) := isi_int i _ cl_list
@[simp] theorem k_bl_int : isiD (.bl b) (.ty "int") = .ret (.bl true) := isi_bl b _ cl_int
@[simp] theorem k_bl_bool : isiD (.bl b) (.ty "bool") = .ret (.bl true) := isi_bl b _ cl_bool
@[simp] theorem k_bl_str : isiD (.bl b) (.ty "str") = .ret (.bl false) := isi_bl b _ cl_str
@[simp] theorem k_bl_tup : isiD (.bl b) (.ty "tuple") = .ret (.bl false) := isi_bl b _ cl_tuple
@[simp] theorem k_bl_lst : isiD (.bl b) (.ty "list") = .ret (.bl false) := isi_bl b _ cl_list
@[simp] theorem k_non_int : isiD .non (.ty "int") = .ret (.bl false) := isi_non _ cl_int
@[simp] theorem k_non_bool : isiD .non (.ty "bool") = .ret (.bl false) := isi_non _ cl_bool
@[simp] theorem k_non_str : isiD .non (.ty "str") = .ret (.bl false) := isi_non _ cl_str
@[simp] theorem k_non_tup : isiD .non (.ty "tuple") = .ret (.bl false) := isi_non _ cl_tuple
@[simp] theorem k_non_lst : isiD .non (.ty "list") = .ret (.bl false) := isi_non _ cl_list
@[simp] theorem k_str_int : isiD (.str x) (.ty "int") = .ret (.bl false) := isi_str x _ cl_int
@[simp] theorem k_str_bool : isiD (.str x) (.ty "bool") = .ret (.bl false) := isi_str x _ cl_bool
@[simp] theorem k_str_str : isiD (.str x) (.ty "str") = .ret (.bl true) := isi_str x _ cl_str
@[simp] theorem k_str_tup : isiD (.str x) (.ty "tuple") = .ret (.bl false) := isi_str x _ cl_tuple
@[simp] theorem k_str_lst : isiD (.str x) (.ty "list") = .ret (.bl false) := isi_str x _ cl_list
@[simp] theorem k_tup_int : isiD (.tup l) (.ty "int") = .ret (.bl false) := isi_tup l _ cl_int
@[simp] theorem k_tup_bool : isiD (.tup l) (.ty "bool") = .ret (.bl false) := isi_tup l _ cl_bool
@[simp] theorem k_tup_str : isiD (.tup l) (.ty "str") = .ret (.bl false) := isi_tup l _ cl_str
@[simp] theorem k_tup_tup : isiD (.tup l) (.ty "tuple") = .ret (.bl true) := isi_tup l _ cl_tuple
@[simp] theorem k_tup_lst : isiD (.tup l) (.ty "list") = .ret (.bl false) := isi_tup l _ cl_list
@[simp] theorem k_lst_int : isiD (.lst l) (.ty "int") = .ret (.bl false) := isi_lst l _ cl_int
@[simp] theorem k_lst_bool : isiD (.lst l) (.ty "bool") = .ret (.bl false) := isi_lst l _ cl_bool
@[simp] theorem k_lst_str : isiD (.lst l) (.ty "str") = .ret (.bl false) := isi_lst l _ cl_str
@[simp] theorem k_lst_tup : isiD (.lst l) (.ty "tuple") = .ret (.bl false) := isi_lst l _ cl_tuple
@[simp] theorem k_lst_lst : isiD (.lst l) (.ty "list") = .ret (.bl true) := isi_lst l _ cl_list
end
@[simp] theorem bnd_r {α β : Type} (a : α) (f : α → Mo β) : Mo.bnd (.ret a) f = f a := rfl
@[simp] theorem st_if {c : En → Mo Bool} {g1 g2 : Sn} {ρ : En} : sIf c g1 g2 ρ = sE (c ρ) ρ fun b M => cond b (g1 ρ M) (g2 ρ M) := rfl
theorem sE_if {ρ : En} (b : Bool) (g1 g2 : Mem → Option (Fl × Mem)) : sE (.ret b) ρ (fun b M => cond b (g1 M) (g2 M)) = cond b g1 g2 := by cases b <;> rfl
theorem fnD_pr {N : List Str} {g : Sn} {ds : List D} {d : D} (h : ∀ M, g (startE N ds) M = some (.ret d, M)) (hd : noref d = true := by rfl) : fnD N g ds = .ret d := fnD_pure (funext h) hd
@[simp] theorem seq_app (g1 g2 : Sn) (ρ : En) (M : Mem) : sSeq g1 g2 ρ M = match g1 ρ M with | some (.nx ρ1, M1) => g2 ρ1 M1 | r => r := rfl
@[simp] theorem sE_app {α : Type} (a : α) (ρ : En) (f : α → Mem → Option (Fl × Mem)) (M : Mem) : sE (.ret a) ρ f M = f a M := rfl
@[simp] theorem s0_app (ρ : En) (M : Mem) : s0 (.ret ρ) M = some (.nx ρ, M) := rfl
@[simp] theorem next_app (ρ : En) (M : Mem) : sNext ρ M = some (.nx ρ, M) := rfl
@[simp] theorem for_app (f : En → Mo Itd') (h : D → En → Mo En) (body : Sn) (ρ : En) (M : Mem) : sFor f h body ρ M = sE (f ρ) ρ (fun it => forL it.gd h body it.items ρ) M := rfl
@[simp] theorem forL_nil (h : D → En → Mo En) (body : Sn) (ρ : En) (M : Mem) : forL none h body [] ρ M = some (.nx ρ, M) := guardM_none _ _
theorem forL_cons (h : D → En → Mo En) (body : Sn) (d : D) (r : List D) (ρ : En) (M : Mem) : forL none h body (d :: r) ρ M = assK (h d ρ M) fun ρ1 M1 => turnK (body ρ1 M1) (forL none h body r) := guardM_none _ _
@[simp] theorem assK_ok (ρ : En) (M : Mem) (k : En → Mem → Option (Fl × Mem)) : assK (some (.ok ρ, M)) k = k ρ M := rfl
@[simp] theorem assK_r (ρ : En) (M : Mem) (k : En → Mem → Option (Fl × Mem)) : assK (Mo.ret ρ M) k = k ρ M := rfl
@[simp] theorem turnK_nx (ρ : En) (M : Mem) (k : En → Mem → Option (Fl × Mem)) : turnK (some (.nx ρ, M)) k = k ρ M := rfl
@[simp] theorem turnK_ct (ρ : En) (M : Mem) (k : En → Mem → Option (Fl × Mem)) : turnK (some (.cnt ρ, M)) k = k ρ M := rfl
@[simp] theorem turnK_bk (ρ : En) (M : Mem) (k : En → Mem → Option (Fl × Mem)) : turnK (some (.brk ρ, M)) k = some (.nx ρ, M) := rfl
@[simp] theorem turnK_rt (d : D) (M : Mem) (k : En → Mem → Option (Fl × Mem)) : turnK (some (.ret d, M)) k = some (.ret d, M) := rfl
@[simp] theorem getV_cons0 (d : D) (r : En) : getV (some d :: r) 0 = .ret d := rfl
@[simp] theorem getV_consS (x : Option D) (r : En) (n : Nat) : getV (x :: r) (n + 1) = getV r n := by unfold getV; simp
@[simp] theorem gNil_app (ρ : En) : gNilD [] ρ = .ret ρ := rfl
@[simp] theorem gCons_app (h : D → En → Mo En) (hs : List D → En → Mo En) (d : D) (r : List D) (ρ : En) : gConsD h hs (d :: r) ρ = .bnd (h d ρ) fun ρ1 => hs r ρ1 := rfl
@[simp] theorem par2_app (i j : Nat) (ρ : En) (a b : D) (M : Mem) : par2 i j ρ [a, b] M = some (.nx ((ρ.set i (some a)).set j (some b)), M) := rfl
theorem small_len {n : Nat} (h : n ≤ 1000000) : n ≤ PySem.sizeLine := by rw [PySem.sizeLine_eq]; omega
theorem forL_ind {h : D → En → Mo En} {body : Sn} (I : Nat → En → Mem → Prop) : ∀ (l : List D) (i : Nat) (ρ : En) (M : Mem), I i ρ M →
    (∀ (j : Nat) (d : D) (ρ : En) (M : Mem), l[j]? = some d → I (i + j) ρ M → ∃ ρ1 M1, h d ρ M = some (.ok ρ1, M1) ∧ ∃ ρ2 M2, (body ρ1 M1 = some (.nx ρ2, M2) ∨ body ρ1 M1 = some (.cnt ρ2, M2)) ∧ I (i + j + 1) ρ2 M2) →
    ∃ ρ' M', forL none h body l ρ M = some (.nx ρ', M') ∧ I (i + l.length) ρ' M'
  | [], i, ρ, M, h0, _ => ⟨ρ, M, forL_nil _ _ _ _, h0⟩
  | d :: r, i, ρ, M, h0, st => by
    obtain ⟨ρ1, M1, e1, ρ2, M2, e2, h2⟩ := st 0 d ρ M rfl h0
    obtain ⟨ρ', M', e3, h3⟩ := forL_ind I r (i + 1) ρ2 M2 h2 fun j d ρ M hj hI => by
      have z := st (j + 1) d ρ M (by simpa using hj) (by rw [show i + (j + 1) = i + 1 + j by omega]; exact hI)
      rw [show i + (j + 1) + 1 = i + 1 + j + 1 by omega] at z
      exact z
    refine ⟨ρ', M', ?_, by rw [List.length_cons, show i + (r.length + 1) = i + 1 + r.length by omega]; exact h3⟩
    rw [forL_cons, e1]
    show turnK (body ρ1 M1) _ = _
    rcases e2 with e2 | e2
    all_goals
      rw [e2]
      exact e3
/-- while: a measure -/
theorem while_ind {c : En → Mo Bool} {body : Sn} (I : Nat → En → Mem → Prop)
    (st : ∀ (m : Nat) (ρ : En) (M : Mem), I m ρ M → (c ρ M = some (.ok false, M)) ∨ (c ρ M = some (.ok true, M) ∧ ∃ m' < m, ∃ ρ2 M2, (body ρ M = some (.nx ρ2, M2) ∨ body ρ M = some (.cnt ρ2, M2)) ∧ I m' ρ2 M2)) :
    ∀ (n m : Nat) (ρ : En) (M : Mem), m < n → I m ρ M → ∃ m' ρ' M', whileN c body n ρ M = some (.nx ρ', M') ∧ I m' ρ' M' ∧ c ρ' M' = some (.ok false, M')
  | 0, m, ρ, M, h, _ => absurd h (Nat.not_lt_zero m)
  | n + 1, m, ρ, M, h, hI => by
    rcases st m ρ M hI with hc | ⟨hc, m', hm, ρ2, M2, hb, hI2⟩
    · refine ⟨m, ρ, M, ?_, hI, hc⟩
      unfold whileN sE
      rw [hc]; rfl
    · obtain ⟨m3, ρ', M', e, h1, h2⟩ := while_ind I st n m' ρ2 M2 (by omega) hI2
      refine ⟨m3, ρ', M', ?_, h1, h2⟩
      unfold whileN sE
      rw [hc]
      show turnK (body ρ M) (whileN c body n) = _
      rcases hb with hb | hb
      all_goals
        rw [hb]
        exact e
end DL
namespace DL
open PySem
theorem compL_ret {β : Type} {turn : D → Mo (List β)} {f : D → List β} : ∀ {l : List D}, (∀ d ∈ l, turn d = .ret (f d)) → compL none turn l = .ret (l.flatMap f)
  | [], _ => funext fun M => guardM_none _ _
  | d :: r, h => by
    funext M
    show guardM none _ M = _
    rw [guardM_none, h d List.mem_cons_self, bnd_r, compL_ret fun e he => h e (List.mem_cons_of_mem _ he), bnd_r, List.flatMap_cons]
theorem compL_map {α β : Type} {g : α → D} {turn : D → Mo (List β)} {f : α → List β} : ∀ {l : List α}, (∀ a ∈ l, turn (g a) = .ret (f a)) → compL none turn (l.map g) = .ret (l.flatMap f)
  | [], _ => funext fun M => guardM_none _ _
  | d :: r, h => by
    funext M
    show guardM none _ M = _
    rw [guardM_none, h d List.mem_cons_self, bnd_r, compL_map fun e he => h e (List.mem_cons_of_mem _ he), bnd_r, List.flatMap_cons]
theorem flat_if {α β : Type} {p : α → Bool} {g : α → β} : ∀ {l : List α}, (l.flatMap fun a => cond (p a) [g a] []) = (l.filter p).map g
  | [] => rfl
  | a :: l => by
    rw [List.flatMap_cons, flat_if, List.filter_cons]
    cases p a <;> rfl
theorem flat_one {α β : Type} {g : α → β} : ∀ {l : List α}, (l.flatMap fun a => [g a]) = l.map g
  | [] => rfl
  | a :: l => by rw [List.flatMap_cons, flat_one]; rfl
/-- a comprehension with an if -/
theorem comp_if {α β : Type} {g : α → D} {turn : D → Mo (List β)} {p : α → Bool} {f : α → β} {l : List α} (h : ∀ a ∈ l, turn (g a) = .ret (cond (p a) [f a] [])) : compL none turn (l.map g) = .ret ((l.filter p).map f) := by
  rw [compL_map h, flat_if]
theorem comp_one {α β : Type} {g : α → D} {turn : D → Mo (List β)} {f : α → β} {l : List α} (h : ∀ a ∈ l, turn (g a) = .ret [f a]) : compL none turn (l.map g) = .ret (l.map f) := by
  rw [compL_map h, flat_one]
theorem foldL_ok {β : Type} (ys : List D) : ∀ (a : List D), a.length + ys.length ≤ 1000000 → foldO stL a ys = some (a ++ ys) := by
  induction ys with
  | nil => intro a _; simp [foldO]
  | cons y r ih =>
    intro a h
    have hs : a.length < sizeLine := by rw [List.length_cons] at h; rw [PySem.sizeLine_eq]; omega
    rw [foldO, stL, if_pos hs, Option.bind_some, ih (a ++ [y]) (by simp at h ⊢; omega)]
    simp
theorem cmp_lst {ys : List D} (h : ys.length ≤ 1000000) : cmpD false stL [] .lst .lst (.ret ys) = .ret (.lst ys) := by
  funext M
  unfold cmpD
  have e : Mo.ne (.ret ys : Mo (List D)) = .ret ys := rfl
  rw [e, bnd_r, foldL_ok (β := D) ys [] (by simpa using h)]
  rfl
theorem cmp_lstM {m : Mo (List D)} {ys : List D} {M M' : Mem} (e : m M = some (.ok ys, M')) (h : ys.length ≤ 1000000) : cmpD false stL [] .lst .lst m M = some (.ok (.lst ys), M') := by
  unfold cmpD
  rw [bnd_of (ne_ok e), foldL_ok (β := D) ys [] (by simpa using h)]
  rfl
/-- all -/
theorem all_ret {α : Type} {g : α → D} {turn : D → Mo (Option Bool)} {p : α → Bool} : ∀ {l : List α}, (∀ a ∈ l, turn (g a) = .ret (some (p a))) → genL true none turn (l.map g) = .ret (l.all p)
  | [], _ => funext fun M => guardM_none _ _
  | d :: r, h => by
    funext M
    show guardM none _ M = _
    rw [guardM_none, h d List.mem_cons_self, bnd_r, all_ret fun e he => h e (List.mem_cons_of_mem _ he), List.all_cons]
    cases p d <;> rfl
@[simp] theorem genL_nil (al : Bool) (turn : D → Mo (Option Bool)) : genL al none turn [] = .ret al := funext fun M => guardM_none _ _
theorem genL_cons (al : Bool) (turn : D → Mo (Option Bool)) (d : D) (r : List D) : genL al none turn (d :: r) = Mo.bnd (turn d) fun o => match o with
    | some c => cond (c == al) (genL al none turn r) (Mo.ret (!al))
    | none => genL al none turn r := funext fun M => guardM_none _ _
@[simp] theorem genD_r (b : Bool) : genD (.ret b) = .ret (.bl b) := rfl
@[simp] theorem blD_r (b : Bool) : blD (.bl b) = .ret (some b) := rfl
@[simp] theorem compL_nil' {β : Type} (turn : D → Mo (List β)) : compL none turn [] = .ret [] := funext fun M => guardM_none _ _
theorem compL_cons' {β : Type} (turn : D → Mo (List β)) (d : D) (r : List D) : compL none turn (d :: r) = Mo.bnd (turn d) fun ys => Mo.bnd (compL none turn r) fun t => .ret (ys ++ t) := funext fun M => guardM_none _ _
theorem run_seq {g1 g2 : Sn} {ρ ρ1 : En} {M M1 : Mem} (h : g1 ρ M = some (.nx ρ1, M1)) : sSeq g1 g2 ρ M = g2 ρ1 M1 := by
  unfold sSeq; rw [h]
theorem run_ret {g1 g2 : Sn} {ρ : En} {M M1 : Mem} {d : D} (h : g1 ρ M = some (.ret d, M1)) : sSeq g1 g2 ρ M = some (.ret d, M1) := by
  unfold sSeq; rw [h]
section
variable (a b c : D) (r : List D)
@[simp] theorem sub_t0 : subD' (.tup (a :: r)) (.int 0) = .ret a := sub_tup (atD_nat (n := 0) rfl)
@[simp] theorem sub_t1 : subD' (.tup (a :: b :: r)) (.int 1) = .ret b := sub_tup (atD_nat (n := 1) rfl)
@[simp] theorem sub_t2 : subD' (.tup (a :: b :: c :: r)) (.int 2) = .ret c := sub_tup (atD_nat (n := 2) rfl)
@[simp] theorem sub_l0 : subD' (.lst (a :: r)) (.int 0) = .ret a := sub_lst (atD_nat (n := 0) rfl)
@[simp] theorem sub_l1 : subD' (.lst (a :: b :: r)) (.int 1) = .ret b := sub_lst (atD_nat (n := 1) rfl)
@[simp] theorem tup_0 : tupD [] = .ret (.tup []) := rfl
@[simp] theorem tup_1 : tupD [a] = .ret (.tup [a]) := tup_ok (small_len (by simp))
@[simp] theorem tup_2 : tupD [a, b] = .ret (.tup [a, b]) := tup_ok (small_len (by simp))
@[simp] theorem tup_3 : tupD [a, b, c] = .ret (.tup [a, b, c]) := tup_ok (small_len (by simp))
@[simp] theorem lst_0 : lstD [] = .ret (.lst []) := rfl
@[simp] theorem lst_1 : lstD [a] = .ret (.lst [a]) := lst_ok (small_len (by simp))
@[simp] theorem lst_2 : lstD [a, b] = .ret (.lst [a, b]) := lst_ok (small_len (by simp))
@[simp] theorem itms_2 : itemsT 2 (.tup [a, b]) = .ret [a, b] := items_ok rfl
@[simp] theorem itms_3 : itemsT 3 (.tup [a, b, c]) = .ret [a, b, c] := items_ok rfl
end
def rng (n : Nat) : List D := (List.range n).map fun k => .int (k : Nat)
theorem rngD1_nat {n : Nat} (h : n ≤ 8388608) : rngD1 [.int (n : Int)] = .ret ⟨(List.range n).map fun k => .int (k : Nat), none⟩ := by
  funext M
  unfold rngD1 rngB rngI
  have h1 : decide ((-8388608 : Int) ≤ (n : Int)) = true := by simp
  have h2 : decide ((n : Int) ≤ 8388608) = true := by simp; omega
  simp only [h1, h2, Bool.and_self, cond_true, Int.toNat_natCast, Int.mul_one, Int.zero_add]
  rfl
theorem rngD2_nat {m n : Nat} (hm : m ≤ 8388608) (hn : n ≤ 8388608) : rngD2 [.int (m : Int), .int (n : Int)] = .ret ⟨(List.range' m (n - m)).map fun k => .int (k : Nat), none⟩ := by
  funext M
  unfold rngD2 rngB rngI
  have h1 : decide ((-8388608 : Int) ≤ (m : Int)) = true := by simp
  have h2 : decide ((m : Int) ≤ 8388608) = true := by simp; omega
  have h3 : decide ((-8388608 : Int) ≤ (n : Int)) = true := by simp
  have h4 : decide ((n : Int) ≤ 8388608) = true := by simp; omega
  have e : ((n : Int) - (m : Int)).toNat = n - m := by omega
  simp only [h1, h2, h3, h4, Bool.and_self, cond_true, Int.mul_one, e]
  rw [List.range'_eq_map_range, List.map_map]
  simp only [Function.comp_def, Nat.add_comm, Int.natCast_add, Int.add_comm]
  rfl
section
variable {κ ν : Type} [DecidableEq κ]
def aGet : List (κ × ν) → κ → Option ν
  | [], _ => none
  | p :: r, k => if p.1 = k then some p.2 else aGet r k
def aPut (l : List (κ × ν)) (k : κ) (v : ν) : List (κ × ν) := if (aGet l k).isSome then l.map (fun p => if p.1 = k then (p.1, v) else p) else l ++ [(k, v)]
theorem aGet_none {l : List (κ × ν)} {k : κ} : aGet l k = none ↔ k ∉ l.map (·.1) := by
  induction l with
  | nil => simp [aGet]
  | cons p r ih =>
    unfold aGet
    by_cases e : p.1 = k
    · simp [e]
    · rw [if_neg e, ih]
      simp [Ne.symm e]
theorem aGet_app {l r : List (κ × ν)} {k : κ} : aGet (l ++ r) k = (aGet l k).or (aGet r k) := by
  induction l with
  | nil => rfl
  | cons p t ih =>
    show (if p.1 = k then some p.2 else aGet (t ++ r) k) = (if p.1 = k then some p.2 else aGet t k).or (aGet r k)
    by_cases e : p.1 = k
    · simp [e]
    · rw [if_neg e, if_neg e]; exact ih
theorem aGet_map {l : List (κ × ν)} {k k' : κ} {v : ν} : aGet (l.map (fun p => if p.1 = k then (p.1, v) else p)) k' = if k = k' then (aGet l k').map fun _ => v else aGet l k' := by
  induction l with
  | nil => simp [aGet]
  | cons p t ih =>
    rw [List.map_cons]
    unfold aGet
    rw [ih]
    by_cases e : p.1 = k
    · subst e
      by_cases e2 : p.1 = k'
      · simp [e2]
      · simp [e2]
    · by_cases e2 : p.1 = k'
      · subst e2
        simp [e, Ne.symm e]
      · simp [e, e2]
theorem aGet_put {l : List (κ × ν)} {k k' : κ} {v : ν} : aGet (aPut l k v) k' = if k = k' then some v else aGet l k' := by
  unfold aPut
  cases e : aGet l k with
  | none =>
    simp only [Option.isSome_none, Bool.false_eq_true, if_false]
    rw [aGet_app]
    by_cases e2 : k = k'
    · subst e2; simp [e, aGet]
    · simp [aGet, e2]
  | some w =>
    simp only [Option.isSome_some, if_true]
    rw [aGet_map]
    by_cases e2 : k = k'
    · subst e2; simp [e]
    · simp [e2]
theorem keys_put {l : List (κ × ν)} {k : κ} {v : ν} : (aPut l k v).map (·.1) = if k ∈ l.map (·.1) then l.map (·.1) else l.map (·.1) ++ [k] := by
  unfold aPut
  cases e : aGet l k with
  | none =>
    rw [if_neg (aGet_none.mp e)]
    simp
  | some w =>
    have : k ∈ l.map (·.1) := Classical.byContradiction fun h => by rw [aGet_none.mpr h] at e; cases e
    rw [if_pos this]
    simp only [Option.isSome_some, if_true, List.map_map]
    apply List.map_congr_left
    intro p _
    simp only [Function.comp]
    split <;> rfl
theorem nodup_put {l : List (κ × ν)} {k : κ} {v : ν} (h : (l.map (·.1)).Nodup) : ((aPut l k v).map (·.1)).Nodup := by
  rw [keys_put]
  split
  · exact h
  · rename_i q
    rw [List.nodup_append]
    refine ⟨h, by simp, fun a ha b hb => ?_⟩
    simp at hb
    subst hb
    intro e; subst e; exact q ha
theorem mem_keys_put {l : List (κ × ν)} {k k' : κ} {v : ν} : k' ∈ (aPut l k v).map (·.1) ↔ k' = k ∨ k' ∈ l.map (·.1) := by
  rw [keys_put]
  split
  · rename_i q
    constructor
    · exact .inr
    · rintro (rfl | h)
      · exact q
      · exact h
  · simp only [List.mem_append, List.mem_singleton]
    exact Or.comm
theorem len_put {l : List (κ × ν)} {k : κ} {v : ν} : (aPut l k v).length ≤ l.length + 1 := by
  unfold aPut
  split <;> simp
theorem aGet_mem {l : List (κ × ν)} (h : (l.map (·.1)).Nodup) {k : κ} {v : ν} : aGet l k = some v ↔ (k, v) ∈ l := by
  induction l with
  | nil => simp [aGet]
  | cons p r ih =>
    rw [List.map_cons, List.nodup_cons] at h
    unfold aGet
    by_cases e : p.1 = k
    · subst e
      simp only [if_true, Option.some.injEq, List.mem_cons]
      constructor
      · intro q; left; subst q; rfl
      · rintro (q | q)
        · rw [← q]
        · exact absurd (List.mem_map_of_mem (f := (·.1)) q) h.1
    · rw [if_neg e, ih h.2, List.mem_cons]
      constructor
      · exact .inr
      · rintro (q | q)
        · rw [← q] at e; exact absurd rfl e
        · exact q
theorem aGet_key {l : List (κ × ν)} {k : κ} : k ∈ l.map (·.1) ↔ ∃ v, aGet l k = some v := by
  cases e : aGet l k with
  | none =>
    have := aGet_none.mp e
    simp [this]
  | some v =>
    simp
    have : k ∈ l.map (·.1) := Classical.byContradiction fun h => by rw [aGet_none.mpr h] at e; cases e
    simpa using this
end
/-- keys as values -/
structure KN (κ : Type) {κ' : Type} (dec : D → Option κ') where
  ek : κ → D
  tk : κ → κ'
  h : ∀ k, dec (ek k) = some (tk k)
  inj : ∀ a b, tk a = tk b → a = b
section
variable {κ ν κ' : Type} [DecidableEq κ] [DecidableEq κ'] {dec : D → Option κ'} (N : KN κ dec) (ev : ν → D)
def kvs (l : List (κ × ν)) : List (D × D) := l.map fun p => (N.ek p.1, ev p.2)
theorem findG_kvs {l : List (κ × ν)} {k : κ} : findG dec (kvs N ev l) (N.tk k) = (aGet l k).map ev := by
  induction l with
  | nil => rfl
  | cons p r ih =>
    show (if dec (N.ek p.1) = some (N.tk k) then some (ev p.2) else findG dec (kvs N ev r) (N.tk k)) = _
    unfold aGet
    rw [ih, N.h]
    by_cases e : p.1 = k
    · subst e; simp
    · rw [if_neg e, if_neg fun q => e (N.inj _ _ (Option.some.inj q))]
theorem putG_kvs {l : List (κ × ν)} {k : κ} {v : ν} : putG dec (kvs N ev l) (N.tk k) (N.ek k) (ev v) = kvs N ev (aPut l k v) := by
  unfold putG aPut
  rw [findG_kvs, Option.isSome_map]
  split
  · unfold kvs
    rw [List.map_map, List.map_map]
    apply List.map_congr_left
    intro p _
    simp only [Function.comp]
    rw [N.h]
    by_cases e : p.1 = k
    · subst e; simp
    · rw [if_neg e, if_neg fun q => e (N.inj _ _ (Option.some.inj q))]
  · unfold kvs; simp
theorem kvs_len (l : List (κ × ν)) : (kvs N ev l).length = l.length := by simp [kvs]
end
/-- ints as keys -/
def kI : KN Nat toK where
  ek n := .int n
  tk n := .inl n
  h _ := rfl
  inj a b h := by have := Sum.inl.inj h; omega
/-- pairs of ints -/
def eP (k : Nat × Nat) : D := .tup [.int k.1, .int k.2]
def kP : KN (Nat × Nat) toKT where
  ek := eP
  tk k := [.inl k.1, .inl k.2]
  h _ := rfl
  inj a b h := by
    simp only [List.cons.injEq, Sum.inl.injEq, and_true] at h
    obtain ⟨h1, h2⟩ := h
    ext <;> omega
section
variable {ν : Type} (ev : ν → D)
theorem lookB_kP {l : List ((Nat × Nat) × ν)} {k : Nat × Nat} : lookB true (kvs kP ev l) (eP k) = some ((aGet l k).map ev) := by
  unfold lookB
  show (toKT (kP.ek k)).map _ = _
  rw [kP.h, Option.map_some, findG_kvs]
theorem putB_kP {l : List ((Nat × Nat) × ν)} {k : Nat × Nat} {v : ν} : putB true (kvs kP ev l) (eP k) (ev v) = some (kvs kP ev (aPut l k v)) := by
  unfold putB
  show (toKT (kP.ek k)).map _ = _
  rw [kP.h, Option.map_some]
  exact congrArg some (putG_kvs kP ev)
theorem lookB_kI {l : List (Nat × ν)} {k : Nat} : lookB false (kvs kI ev l) (.int k) = some ((aGet l k).map ev) := by
  unfold lookB
  show (toK (kI.ek k)).map _ = _
  rw [kI.h, Option.map_some, findG_kvs]
theorem putB_kI {l : List (Nat × ν)} {k : Nat} {v : ν} : putB false (kvs kI ev l) (.int k) (ev v) = some (kvs kI ev (aPut l k v)) := by
  unfold putB
  show (toK (kI.ek k)).map _ = _
  rw [kI.h, Option.map_some]
  exact congrArg some (putG_kvs kI ev)
/-- a dict comprehension with distinct keys -/
theorem fold_kP : ∀ (r l : List ((Nat × Nat) × ν)), ((l ++ r).map (·.1)).Nodup → l.length + r.length ≤ 1000000 → foldO (stD true) (kvs kP ev l) (kvs kP ev r) = some (kvs kP ev (l ++ r))
  | [], l, _, _ => by simp [kvs, foldO]
  | p :: r, l, h, hl => by
    have hs : (kvs kP ev l).length < sizeLine := by rw [kvs_len, PySem.sizeLine_eq]; rw [List.length_cons] at hl; omega
    show (stD true (kvs kP ev l) (eP p.1, ev p.2)).bind _ = _
    unfold stD
    rw [if_pos hs, putB_kP]
    have hn : p.1 ∉ l.map (·.1) := by
      rw [List.map_append, List.nodup_append] at h
      intro q
      exact h.2.2 _ q p.1 (by simp) rfl
    have e : aPut l p.1 p.2 = l ++ [p] := by unfold aPut; rw [aGet_none.mpr hn]; rfl
    rw [e, Option.bind_some]
    rw [show l ++ p :: r = l ++ [p] ++ r by simp] at h ⊢
    exact fold_kP r (l ++ [p]) h (by simp at hl ⊢; omega)
theorem cmp_kP {md : Bool} {l : List ((Nat × Nat) × ν)} (h : (l.map (·.1)).Nodup) (hl : l.length ≤ 1000000) : cmpD md (stD true) [] (.dct true) (.dct true) (.ret (kvs kP ev l)) = finDO md (.dct true (kvs kP ev l)) (.dct true (kvs kP ev l)) := by
  funext M
  unfold cmpD
  have e : Mo.ne (.ret (kvs kP ev l) : Mo (List (D × D))) = .ret (kvs kP ev l) := rfl
  rw [e, bnd_r]
  have z := fold_kP ev l [] (by simpa using h) (by simpa using hl)
  rw [show kvs kP ev ([] : List ((Nat × Nat) × ν)) = [] from rfl, List.nil_append] at z
  rw [z]
end
@[simp] theorem finDO_f (d : D) (o : O) : finDO false d o = .ret d := rfl
@[simp] theorem finDO_t (d : D) (o : O) (M : Mem) : finDO true d o M = some (.ok (.ref M.length), M ++ [o]) := rfl
def ltP (a b : Nat × Nat) : Prop := a.1 < b.1 ∨ (a.1 = b.1 ∧ a.2 < b.2)
instance (a b : Nat × Nat) : Decidable (ltP a b) := by unfold ltP; infer_instance
theorem ltP.irr {a : Nat × Nat} (h : ltP a a) : False := by unfold ltP at h; omega
theorem ltP.trans {a b c : Nat × Nat} (h1 : ltP a b) (h2 : ltP b c) : ltP a c := by unfold ltP at *; omega
theorem ltP.tot {a b : Nat × Nat} (h : ¬ ltP a b) (h2 : ¬ ltP b a) : a = b := by
  unfold ltP at h h2
  ext <;> omega
theorem dataLt_pair (a b c d : Int) : PySem.W.dataLt (.tuple [.int a, .int b]) (.tuple [.int c, .int d]) = decide (a < c ∨ (a = c ∧ b < d)) := by
  show PyProof.Rows.lexLt PyProof.Rows.itemOrd [.inl 1, .inl a, .inl 1, .inl b, .inl 0] [.inl 1, .inl c, .inl 1, .inl d, .inl 0] = _
  simp only [PyProof.Rows.lexLt, PyProof.Rows.itemOrd, PyProof.Rows.itemLt]
  rw [Bool.eq_iff_iff]
  simp
  omega
theorem ltD_pair (a b c d : Int) : ltD (.tup [.int a, .int b]) (.tup [.int c, .int d]) = .ret (.bl (decide (a < c ∨ (a = c ∧ b < d)))) := by
  funext M
  unfold ltD
  simp only [res, py, pyL, Option.map_some]
  rw [← dataLt_pair]
  rw [if_pos]
  · rfl
  · exact ⟨rfl, show 1 ≤ 64 by decide⟩
theorem ltD_eP (a b : Nat × Nat) : ltD (eP a) (eP b) = .ret (.bl (decide (ltP a b))) := by
  unfold eP ltP
  rw [ltD_pair]
  congr 3
  have : (((a.1 : Int) < b.1 ∨ ((a.1 : Int) = b.1 ∧ (a.2 : Int) < b.2))) = (a.1 < b.1 ∨ (a.1 = b.1 ∧ a.2 < b.2)) := by apply propext; omega
  exact this
/-- by the order of pairs -/
def leP (a b : Nat × Nat) : Bool := !decide (ltP b a)
theorem leP_trans : ∀ a b c, leP a b = true → leP b c = true → leP a c = true := by
  intro a b c h1 h2
  unfold leP at *
  simp only [Bool.not_eq_true', decide_eq_false_iff_not] at *
  unfold ltP at *
  omega
theorem leP_total : ∀ a b, (leP a b || leP b a) = true := by
  intro a b
  unfold leP
  simp only [Bool.or_eq_true, Bool.not_eq_true', decide_eq_false_iff_not]
  unfold ltP
  omega
def sortP (l : List (Nat × Nat)) : List (Nat × Nat) := l.mergeSort leP
theorem sortP_perm (l : List (Nat × Nat)) : (sortP l).Perm l := List.mergeSort_perm _ _
theorem sortP_mem {l : List (Nat × Nat)} {a : Nat × Nat} : a ∈ sortP l ↔ a ∈ l := (sortP_perm l).mem_iff
theorem sortP_lt {l : List (Nat × Nat)} (h : l.Nodup) : (sortP l).Pairwise ltP := by
  have z := List.pairwise_mergeSort leP_trans leP_total l
  have n : (sortP l).Nodup := (sortP_perm l).nodup_iff.mpr h
  have := z.and n
  refine this.imp fun ⟨h1, h2⟩ => ?_
  unfold leP at h1
  simp at h1
  exact Classical.byContradiction fun q => h2 (ltP.tot q h1)
theorem enc_eP (a : Nat × Nat) : enc (eP a) = .tuple [.int a.1, .int a.2] := rfl
theorem sortL_eP (l : List (Nat × Nat)) : sortL (l.map eP) = (sortP l).map eP := by
  unfold sortL sortP
  symm
  apply List.map_mergeSort
  intro a _ b _
  unfold leP PySem.W.dataLe PySem.W.sortLe
  simp only [cond_false]
  have z := dataLt_pair b.1 b.2 a.1 a.2
  unfold PySem.W.dataLt at z
  rw [enc_eP, enc_eP]
  show _ = !PyProof.Rows.lexLt PyProof.Rows.itemOrd _ _
  rw [z]
  congr 1
  have : (((b.1 : Int) < a.1 ∨ ((b.1 : Int) = a.1 ∧ (b.2 : Int) < a.2))) = ltP b a := by unfold ltP; apply propext; omega
  rw [Bool.eq_iff_iff, decide_eq_true_iff, decide_eq_true_iff, this]
theorem pyL_eP (l : List (Nat × Nat)) : pyL (l.map eP) = some (l.map fun a => .tuple [.int a.1, .int a.2]) := by
  induction l with
  | nil => rfl
  | cons a r ih => rw [List.map_cons, pyL, ih]; rfl
theorem sortOk_eP (l : List (Nat × Nat)) : sortOk (l.map eP) = true := by
  unfold sortOk
  rw [pyL_eP]
  simp only [Option.isSome_some, Bool.true_and, Bool.and_eq_true]
  refine ⟨⟨?_, ?_⟩, ?_⟩
  · unfold alikeB
    rw [List.all_eq_true]
    intro d hd
    rw [List.all_eq_true]
    intro d' hd'
    simp only [List.map_map, List.mem_map, Function.comp] at hd hd'
    obtain ⟨a, _, rfl⟩ := hd
    obtain ⟨b, _, rfl⟩ := hd'
    rfl
  · unfold sortB
    rw [Bool.or_eq_true]
    left
    rw [List.all_eq_true]
    intro d hd
    simp only [List.map_map, List.mem_map, Function.comp] at hd
    obtain ⟨a, _, rfl⟩ := hd
    rfl
  · rw [List.all_eq_true]
    intro d hd
    simp only [List.mem_map] at hd
    obtain ⟨a, _, rfl⟩ := hd
    rfl
theorem sortedD_eP {M : Mem} {d : D} {l : List (Nat × Nat)} (h : seqK M d = some (l.map eP)) : sortedD false d M = some (.ok (.lst ((sortP l).map eP)), M) := by
  unfold sortedD
  rw [h]
  simp only [sortOk_eP, cond_true, sortL_eP]
  rfl
theorem dataLt_int' (a b : Int) : PyProof.Rows.lexLt PyProof.Rows.itemOrd (PySem.W.keyToks (.int a)) (PySem.W.keyToks (.int b)) = decide (a < b) := by
  show PyProof.Rows.lexLt PyProof.Rows.itemOrd [.inl a] [.inl b] = _
  simp only [PyProof.Rows.lexLt, PyProof.Rows.itemOrd, PyProof.Rows.itemLt]
  simp
def eN (n : Nat) : D := .int n
def sortN (l : List Nat) : List Nat := l.mergeSort fun a b => decide (a ≤ b)
theorem sortN_mem {l : List Nat} {a : Nat} : a ∈ sortN l ↔ a ∈ l := (List.mergeSort_perm _ _).mem_iff
theorem sortN_lt {l : List Nat} (h : l.Nodup) : (sortN l).Pairwise (· < ·) := by
  have z := List.pairwise_mergeSort (le := fun a b : Nat => decide (a ≤ b)) (by intro a b c h1 h2; simp at h1 h2 ⊢; omega) (by intro a b; simp; omega) l
  have n : (sortN l).Nodup := (List.mergeSort_perm _ _).nodup_iff.mpr h
  refine (z.and n).imp fun ⟨h1, h2⟩ => ?_
  simp at h1
  omega
theorem sortL_eN (l : List Nat) : sortL (l.map eN) = (sortN l).map eN := by
  unfold sortL sortN
  symm
  apply List.map_mergeSort
  intro a _ b _
  unfold PySem.W.dataLe PySem.W.sortLe
  simp only [cond_false]
  show _ = !PyProof.Rows.lexLt PyProof.Rows.itemOrd (PySem.W.keyToks (.int b)) (PySem.W.keyToks (.int a))
  rw [dataLt_int']
  rw [Bool.eq_iff_iff]; simp
theorem pyL_eN (l : List Nat) : pyL (l.map eN) = some (l.map fun a => .int a) := by
  induction l with
  | nil => rfl
  | cons a r ih => rw [List.map_cons, pyL, ih]; rfl
theorem sortOk_eN (l : List Nat) : sortOk (l.map eN) = true := by
  unfold sortOk
  rw [pyL_eN]
  simp only [Option.isSome_some, Bool.true_and, Bool.and_eq_true]
  refine ⟨⟨?_, ?_⟩, ?_⟩
  · unfold alikeB
    rw [List.all_eq_true]
    intro d hd
    rw [List.all_eq_true]
    intro d' hd'
    simp only [List.map_map, List.mem_map, Function.comp] at hd hd'
    obtain ⟨a, _, rfl⟩ := hd
    obtain ⟨b, _, rfl⟩ := hd'
    rfl
  · unfold sortB
    rw [Bool.or_eq_true]
    right
    rw [List.all_eq_true]
    intro d hd
    simp only [List.map_map, List.mem_map, Function.comp] at hd
    obtain ⟨a, _, rfl⟩ := hd
    rfl
  · rw [List.all_eq_true]
    intro d hd
    simp only [List.mem_map] at hd
    obtain ⟨a, _, rfl⟩ := hd
    rfl
theorem sortedD_eN {M : Mem} {d : D} {l : List Nat} (h : seqK M d = some (l.map eN)) : sortedD false d M = some (.ok (.lst ((sortN l).map eN)), M) := by
  unfold sortedD
  rw [h]
  simp only [sortOk_eN, cond_true, sortL_eN]
  rfl
theorem eq_of_pw {α : Type} {lt : α → α → Prop} (irr : ∀ a, ¬ lt a a) (tr : ∀ a b c, lt a b → lt b c → lt a c) : ∀ {l m : List α}, l.Pairwise lt → m.Pairwise lt → (∀ a, a ∈ l ↔ a ∈ m) → l = m
  | [], [], _, _, _ => rfl
  | [], b :: m, _, _, h => absurd ((h b).mpr List.mem_cons_self) List.not_mem_nil
  | a :: l, [], _, _, h => absurd ((h a).mp List.mem_cons_self) List.not_mem_nil
  | a :: l, b :: m, hl, hm, h => by
    rw [List.pairwise_cons] at hl hm
    have e : a = b := by
      rcases List.mem_cons.mp ((h a).mp List.mem_cons_self) with e | h1
      · exact e
      · rcases List.mem_cons.mp ((h b).mpr List.mem_cons_self) with e | h2
        · exact e.symm
        · exact absurd (tr _ _ _ (hl.1 b h2) (hm.1 a h1)) (irr a)
    subst e
    congr 1
    refine eq_of_pw irr tr hl.2 hm.2 fun c => ⟨fun hc => ?_, fun hc => ?_⟩
    · rcases List.mem_cons.mp ((h c).mp (List.mem_cons_of_mem _ hc)) with e | q
      · subst e; exact absurd (hl.1 c hc) (irr c)
      · exact q
    · rcases List.mem_cons.mp ((h c).mpr (List.mem_cons_of_mem _ hc)) with e | q
      · subst e; exact absurd (hm.1 c hc) (irr c)
      · exact q
theorem len_lt {B : Nat} : ∀ {l : List Nat} (s : Nat), l.Pairwise (· < ·) → (∀ a ∈ l, s ≤ a ∧ a < B) → s + l.length ≤ max s B
  | [], s, _, _ => by simp; omega
  | a :: l, s, h, hb => by
    rw [List.pairwise_cons] at h
    have h1 := hb a List.mem_cons_self
    have z := len_lt (l := l) (a + 1) h.2 fun b hb' => ⟨h.1 b hb', (hb b (List.mem_cons_of_mem _ hb')).2⟩
    rw [List.length_cons]
    omega
theorem len_nodup {B : Nat} {l : List Nat} (h : l.Nodup) (hb : ∀ a ∈ l, a < B) : l.length ≤ B := by
  have z := len_lt (B := B) 0 (sortN_lt h) fun a ha => ⟨Nat.zero_le _, hb a (sortN_mem.mp ha)⟩
  have e : (sortN l).length = l.length := List.length_mergeSort _
  omega
theorem code_inj {n a b c d : Nat} (hb : b < n) (hd : d < n) (h : a * n + b = c * n + d) : a = c ∧ b = d := by
  have e : a = c := by
    rcases Nat.lt_trichotomy a c with q | q | q
    · have := Nat.mul_le_mul_right n (show a + 1 ≤ c from q)
      rw [Nat.add_mul] at this; omega
    · exact q
    · have := Nat.mul_le_mul_right n (show c + 1 ≤ a from q)
      rw [Nat.add_mul] at this; omega
  subst e
  exact ⟨rfl, by omega⟩
theorem len_pairs {m n : Nat} {l : List (Nat × Nat)} (h : l.Nodup) (hl : ∀ a ∈ l, a.1 < m ∧ a.2 < n) : l.length ≤ m * n := by
  have z := len_nodup (B := m * n) (l := l.map fun a => a.1 * n + a.2) (by
    unfold List.Nodup at *
    rw [List.pairwise_map]
    refine h.imp_of_mem fun {a b} ha hb hne q => hne ?_
    obtain ⟨h1, h2⟩ := code_inj (hl a ha).2 (hl b hb).2 q
    ext <;> assumption) (fun c hc => by
    obtain ⟨a, ha, rfl⟩ := List.mem_map.mp hc
    obtain ⟨h1, h2⟩ := hl a ha
    have := Nat.mul_le_mul_right n (show a.1 + 1 ≤ m from h1)
    rw [Nat.add_mul] at this; omega)
  simpa using z
end DL
namespace DL
open PySem
theorem bnd_M {α β : Type} {m : Mo α} {f : α → Mo β} {M M1 : Mem} {a : α} (h : m M = some (.ok a, M1)) : Mo.bnd m f M = f a M1 := bnd_of h
theorem compL_M {α β : Type} {g : α → D} {turn : D → Mo (List β)} {f : α → List β} {M : Mem} : ∀ {l : List α}, (∀ a ∈ l, turn (g a) M = some (.ok (f a), M)) → compL none turn (l.map g) M = some (.ok (l.flatMap f), M)
  | [], _ => guardM_none _ _
  | d :: r, h => by
    show guardM none _ M = _
    rw [guardM_none, bnd_M (h d List.mem_cons_self), bnd_M (compL_M fun e he => h e (List.mem_cons_of_mem _ he)), List.flatMap_cons]
    rfl
theorem comp_ifM {α β : Type} {g : α → D} {turn : D → Mo (List β)} {p : α → Bool} {f : α → β} {l : List α} {M : Mem} (h : ∀ a ∈ l, turn (g a) M = some (.ok (cond (p a) [f a] []), M)) : compL none turn (l.map g) M = some (.ok ((l.filter p).map f), M) := by
  rw [compL_M h, flat_if]
theorem comp_oneM {α β : Type} {g : α → D} {turn : D → Mo (List β)} {f : α → β} {l : List α} {M : Mem} (h : ∀ a ∈ l, turn (g a) M = some (.ok [f a], M)) : compL none turn (l.map g) M = some (.ok (l.map f), M) := by
  rw [compL_M h, flat_one]
theorem all_M {α : Type} {g : α → D} {turn : D → Mo (Option Bool)} {p : α → Bool} {M : Mem} : ∀ {l : List α}, (∀ a ∈ l, turn (g a) M = some (.ok (some (p a)), M)) → genL true none turn (l.map g) M = some (.ok (l.all p), M)
  | [], _ => guardM_none _ _
  | d :: r, h => by
    show guardM none _ M = _
    rw [guardM_none, bnd_M (h d List.mem_cons_self), List.all_cons]
    cases e : p d with
    | false => rfl
    | true => exact all_M fun e he => h e (List.mem_cons_of_mem _ he)
theorem comp_if2 {α β γ : Type} {g : α → D} {turn : D → Mo (List γ)} {p : α → Bool} {f : α → β} {u : β → γ} {l : List α} (h : ∀ a ∈ l, turn (g a) = .ret (cond (p a) [u (f a)] [])) : compL none turn (l.map g) = .ret (((l.filter p).map f).map u) := by
  rw [comp_if (f := fun a => u (f a)) h, List.map_map]; rfl
theorem comp_exM {β : Type} {turn : D → Mo (List β)} (I : Mem → Prop) (P : β → Prop) : ∀ {l : List D} {M : Mem}, I M → (∀ d ∈ l, ∀ M, I M → ∃ b M', turn d M = some (.ok [b], M') ∧ I M' ∧ P b) → ∃ bs M', compL none turn l M = some (.ok bs, M') ∧ I M' ∧ bs.length = l.length ∧ ∀ b ∈ bs, P b
  | [], M, h, _ => ⟨[], M, guardM_none _ _, h, rfl, by simp⟩
  | d :: r, M, h, z => by
    obtain ⟨b, M1, e1, i1, p1⟩ := z d List.mem_cons_self M h
    obtain ⟨bs, M2, e2, i2, l2, p2⟩ := comp_exM I P (l := r) i1 fun e he => z e (List.mem_cons_of_mem _ he)
    refine ⟨b :: bs, M2, ?_, i2, by simp [l2], fun c hc => ?_⟩
    · rw [compL_cons', bnd_M e1, bnd_M e2]; rfl
    · rcases List.mem_cons.mp hc with rfl | hc
      · exact p1
      · exact p2 _ hc
theorem genD_M {m : Mo Bool} {b : Bool} {M M' : Mem} (h : m M = some (.ok b, M')) : genD m M = some (.ok (.bl b), M') := by
  unfold genD
  rw [bnd_of (ne_ok h)]; rfl
theorem sub_dct {M : Mem} {d : D} {t : Bool} {l : List (D × D)} {b v : D} (h : res M d = .dct t l) (e : lookB t l b = some (some v)) : subD' d b M = some (.ok v, M) := by
  unfold subD'; simp only [h, e]
theorem isDc_of {M : Mem} {d : D} {t : Bool} {l : List (D × D)} (h : res M d = .dct t l) : isDc M d = true := by
  unfold isDc dctB; rw [h]; rfl
theorem chk_dc {α : Type} {M : Mem} {d : D} {t : Bool} {l : List (D × D)} {m : Mo α} (h : res M d = .dct t l) : chkM isDc d m M = m M := by
  unfold chkM; rw [isDc_of h]; rfl
theorem get_dct {M : Mem} {d : D} {t : Bool} {l : List (D × D)} {b v : D} {o : Option D} (h : res M d = .dct t l) (e : lookB t l b = some o) : getD' d [b, v] M = some (.ok (o.getD v), M) := by
  unfold getD' dctB; simp only [h, e]
theorem get_dct1 {M : Mem} {d : D} {t : Bool} {l : List (D × D)} {b : D} {o : Option D} (h : res M d = .dct t l) (e : lookB t l b = some o) : getD' d [b] M = some (.ok (o.getD .non), M) := by
  unfold getD' dctB; simp only [h, e]
theorem store_dct {M : Mem} {n : Nat} {t : Bool} {l l' : List (D × D)} {b v : D} {ρ : En} (h : M[n]? = some (.dct t l)) (hl : l.length ≤ 1000000) (e : putB t l b v = some l') : storeM (.ref n) b v ρ M = some (.ok ρ, M.set n (.dct t l')) := by
  unfold storeM storeB
  have hs : l.length < sizeLine := by rw [PySem.sizeLine_eq]; omega
  simp only [h, e, if_pos hs, Option.map_some]
theorem res_ref {M : Mem} {n : Nat} {t : Bool} {l : List (D × D)} (h : M[n]? = some (.dct t l)) : res M (.ref n) = .dct t l := by simp [res, h]
theorem sE_M {α : Type} {m : Mo α} {ρ : En} {f : α → Mem → Option (Fl × Mem)} {M M1 : Mem} {a : α} (h : m M = some (.ok a, M1)) : sE m ρ f M = f a M1 := by
  unfold sE; rw [h]
/-- a def that touches nothing, at one memory -/
theorem fnD_at {N : List Str} {g : Sn} {ds : List D} {d : D} {M : Mem} (h : g (startE N ds) M = some (.ret d, M)) (hd : noref d = true) : fnD N g ds M = some (.ok d, M) := by
  unfold fnD
  rw [h]
  exact fnR_ret hd (by simp)
/-- a def that makes new objects -/
theorem fnD_new {N : List Str} {g : Sn} {ds : List D} {d : D} {M M' : Mem} (h : g (startE N ds) M = some (.ret d, M ++ M')) (hd : noref d = true) : fnD N g ds M = some (.ok d, M) := by
  unfold fnD
  rw [h]
  exact fnR_ret hd (by simp)
theorem fnD_obj {N : List Str} {g : Sn} {ds : List D} {d d' : D} {M X : Mem} (h : g (startE N ds) M = some (.ret d, M ++ X)) (hd : subst (frF (M ++ X) M.length 3) d = some d') : fnD N g ds M = some (.ok d', M) := by
  unfold fnD
  rw [h]
  show fin M (M ++ X) d = _
  unfold fin
  rw [hd, finM_same _ _ (by simp)]
theorem frF_dct {M : Mem} {n0 j k : Nat} {t : Bool} {l : List (D × D)} (h : M[k]? = some (.dct t l)) (hk : n0 ≤ k) (hl : norefK l = true) : frF M n0 (j + 1) k = some (.dct t l) := by
  unfold frF
  rw [if_neg (by omega), h]
  simp only [substK_noref hl, Option.map_some]
theorem substL_maps {α : Type} {f : Nat → Option D} {g h : α → D} : ∀ {l : List α}, (∀ a ∈ l, subst f (g a) = some (h a)) → substL f (l.map g) = some (l.map h)
  | [], _ => rfl
  | a :: l, z => by
    rw [List.map_cons, substL, z a List.mem_cons_self, substL_maps fun b hb => z b (List.mem_cons_of_mem _ hb)]
    rfl
end DL
namespace DL
open PySem L2
/-- each once, in the order they come -/
def ddf : List (Nat × Nat) → List (Nat × Nat) → List (Nat × Nat)
  | l, [] => l
  | l, y :: r => ddf (if y ∈ l then l else l ++ [y]) r
theorem ddf_mem {x : Nat × Nat} : ∀ {r l : List (Nat × Nat)}, x ∈ ddf l r ↔ x ∈ l ∨ x ∈ r
  | [], l => by simp [ddf]
  | y :: r, l => by
    rw [ddf, ddf_mem, List.mem_cons]
    split
    · rename_i h
      constructor
      · rintro (q | q)
        · exact .inl q
        · exact .inr (.inr q)
      · rintro (q | q | q)
        · exact .inl q
        · subst q; exact .inl h
        · exact .inr q
    · simp [or_assoc]
theorem ddf_nodup : ∀ {r l : List (Nat × Nat)}, l.Nodup → (ddf l r).Nodup
  | [], l, h => h
  | y :: r, l, h => by
    rw [ddf]
    refine ddf_nodup ?_
    split
    · exact h
    · rename_i q
      rw [List.nodup_append]
      refine ⟨h, by simp, fun a ha b hb => ?_⟩
      simp at hb
      subst hb
      intro e; subst e; exact q ha
def ip (k : Nat × Nat) : List Int := [(k.1 : Int), (k.2 : Int)]
theorem ip_inj {a b : Nat × Nat} (h : ip a = ip b) : a = b := by
  unfold ip at h
  simp only [List.cons.injEq, and_true] at h
  obtain ⟨h1, h2⟩ := h
  ext <;> omega
theorem ip_mem {a : Nat × Nat} {l : List (Nat × Nat)} : ip a ∈ l.map ip ↔ a ∈ l := by
  rw [List.mem_map]
  constructor
  · rintro ⟨b, hb, e⟩
    rw [← ip_inj e]; exact hb
  · intro h; exact ⟨a, h, rfl⟩
theorem set_fold {p q : Nat} (hpq : p * q ≤ 60) : ∀ (r l : List (Nat × Nat)), l.Nodup → (∀ a ∈ l, a.1 < p ∧ a.2 < q) → (∀ a ∈ r, a.1 < p ∧ a.2 < q) →
    foldO (fun (l : List (List Int)) y => if l.length + 1 < 64 then some (if y ∈ l then l else l ++ [y]) else none) (l.map ip) (r.map ip) = some ((ddf l r).map ip)
  | [], l, _, _, _ => rfl
  | y :: r, l, nd, hl, hr => by
    have hn := len_pairs nd hl
    have hlt : (l.map ip).length + 1 < 64 := by rw [List.length_map]; omega
    show (if (l.map ip).length + 1 < 64 then some (if ip y ∈ l.map ip then l.map ip else l.map ip ++ [ip y]) else none).bind _ = _
    rw [if_pos hlt, Option.bind_some]
    have e : (if ip y ∈ l.map ip then l.map ip else l.map ip ++ [ip y]) = (if y ∈ l then l else l ++ [y]).map ip := by
      by_cases h : y ∈ l
      · rw [if_pos h, if_pos (ip_mem.mpr h)]
      · rw [if_neg h, if_neg fun z => h (ip_mem.mp z)]; simp
    rw [e, ddf]
    refine set_fold hpq r _ ?_ ?_ fun a ha => hr a (List.mem_cons_of_mem _ ha)
    · split
      · exact nd
      · rename_i q
        rw [List.nodup_append]
        refine ⟨nd, by simp, fun a ha b hb => ?_⟩
        simp at hb
        subst hb
        intro e; subst e; exact q ha
    · intro a ha
      split at ha
      · exact hl a ha
      · rcases List.mem_append.mp ha with h | h
        · exact hl a h
        · simp at h; subst h; exact hr _ List.mem_cons_self
theorem setD_run {p q : Nat} (hpq : p * q ≤ 60) {m : Mo (List (List Int))} {r : List (Nat × Nat)} {M M' : Mem} (e : m M = some (.ok (r.map ip), M')) (hr : ∀ a ∈ r, a.1 < p ∧ a.2 < q) : setD m M = some (.ok (.set ((ddf [] r).map ip)), M') := by
  unfold setD
  rw [bnd_of (ne_ok e)]
  have z := set_fold hpq r [] (by simp) (by simp) hr
  simp only [List.map_nil] at z
  rw [z]
  rfl
theorem sortS_ip {l : List (Nat × Nat)} (h : ∀ a ∈ l, a.1 < 64 ∧ a.2 < 64) : sortS 64 (l.map ip) = (sortP l).map ip := by
  unfold sortS sortP
  symm
  apply List.map_mergeSort
  intro a ha b hb
  have h1 := h a ha
  have h2 := h b hb
  unfold leP ip
  rw [Bool.eq_iff_iff]
  simp only [Bool.not_eq_true', decide_eq_false_iff_not, decide_eq_true_eq]
  unfold ltP
  simp only [TS.code, List.length_cons, List.length_nil]
  omega
theorem sorted_set {l : List (Nat × Nat)} (h : ∀ a ∈ l, a.1 < 64 ∧ a.2 < 64) : sortedS false 2 64 (.set (l.map ip)) = .ret (.lst ((sortP l).map eP)) := by
  funext M
  unfold sortedS
  have e : (decide (1 ≤ 2) && (l.map ip).all fun k => decide (k.length = 2) && bdB 64 k) = true := by
    rw [Bool.and_eq_true]
    refine ⟨rfl, ?_⟩
    rw [List.all_eq_true]
    intro k hk
    obtain ⟨a, ha, rfl⟩ := List.mem_map.mp hk
    have := h a ha
    unfold bdB ip
    simp
    omega
  simp only [e, cond_true, sortS_ip h]
  rw [List.map_map]
  rfl
end DL
namespace DL
open PySem
def fq (r : Rat) : D := .tup [.int r.num, .int (r.den : Nat)]
theorem fq_inj {a b : Rat} : fq a = fq b ↔ a = b := by
  unfold fq
  simp only [D.tup.injEq, List.cons.injEq, D.int.injEq, and_true]
  constructor
  · rintro ⟨h1, h2⟩
    exact Rat.ext h1 (by omega)
  · rintro rfl; exact ⟨rfl, rfl⟩
theorem fq_ok (r : Rat) : okD (fq r) := ⟨rfl, by show 1 ≤ 64; decide⟩
theorem eq_fq (a b : Rat) : eqD (fq a) (fq b) = .ret (.bl (decide (a = b))) := by
  rw [eqD_pl (fq_ok a) (fq_ok b)]
  by_cases h : a = b
  · simp [h]
  · simp [h, fq_inj]
theorem ne_fq (a b : Rat) : neD (fq a) (fq b) = .ret (.bl (decide (a ≠ b))) := by
  rw [neD_pl (fq_ok a) (fq_ok b)]
  by_cases h : a = b
  · simp [h]
  · simp [h, fq_inj]
theorem fq_0 : (.tup [.int 0, .int 1] : D) = fq 0 := rfl
theorem fq_1 : (.tup [.int 1, .int 1] : D) = fq 1 := rfl
@[simp] theorem sub_fq0 (r : Rat) : subD' (fq r) (.int 0) = .ret (.int r.num) := sub_t0 _ _
@[simp] theorem sub_fq1 (r : Rat) : subD' (fq r) (.int 1) = .ret (.int (r.den : Nat)) := sub_t1 _ _ _
theorem gcd_nc (p q : Int) : Nat.gcd p.natAbs q.natAbs = Int.gcd p q := rfl
theorem num_q {p q : Int} (h : 0 < q) : (Rat.divInt p q).num = p.fdiv (Int.gcd p q : Nat) := by
  rw [Rat.num_divInt, Int.sign_eq_one_of_pos h, Int.one_mul, Int.gcd_comm, Int.fdiv_eq_ediv_of_nonneg _ (Int.natCast_nonneg _)]
theorem den_q {p q : Int} (h : 0 < q) : ((Rat.divInt p q).den : Int) = q.fdiv (Int.gcd p q : Nat) := by
  rw [Rat.den_divInt, if_neg (by omega), Int.gcd_comm, Int.fdiv_eq_ediv_of_nonneg _ (Int.natCast_nonneg _)]
  have : (q.natAbs : Int) = q := by omega
  rw [Int.natCast_ediv, this]
theorem num_le (p : Int) {q : Int} (h : 0 < q) : (Rat.divInt p q).num.natAbs ≤ p.natAbs := by
  rw [Rat.num_divInt, Int.sign_eq_one_of_pos h, Int.one_mul, Int.natAbs_ediv_of_dvd (Int.gcd_dvd_right ..)]
  exact Nat.div_le_self _ _
theorem den_le (p : Int) {q : Int} (h : 0 < q) : (Rat.divInt p q).den ≤ q.natAbs := by
  rw [Rat.den_divInt, if_neg (by omega)]
  exact Nat.div_le_self _ _
def Sz (s : Nat) (r : Rat) : Prop := r.num.natAbs < 2 ^ s ∧ r.den < 2 ^ s
theorem Sz.mono {s t : Nat} {r : Rat} (h : Sz s r) (hst : s ≤ t) : Sz t r :=
  ⟨Nat.lt_of_lt_of_le h.1 (Nat.pow_le_pow_right (by decide) hst), Nat.lt_of_lt_of_le h.2 (Nat.pow_le_pow_right (by decide) hst)⟩
theorem Sz.zero {s : Nat} (h : 1 ≤ s) : Sz s 0 := by
  have : 2 ^ 1 ≤ 2 ^ s := Nat.pow_le_pow_right (by decide) h
  exact ⟨by show 0 < 2 ^ s; omega, by show 1 < 2 ^ s; omega⟩
theorem lt_mul {a b s t : Nat} (h1 : a < 2 ^ s) (h2 : b < 2 ^ t) : a * b < 2 ^ (s + t) := by
  rw [Nat.pow_add]
  exact Nat.mul_lt_mul'' h1 h2
theorem add_q (a b : Rat) : a + b = Rat.divInt (a.num * b.den + b.num * a.den) ((a.den : Int) * b.den) := by
  have h := Rat.divInt_add_divInt a.num b.num (d₁ := a.den) (d₂ := b.den) (by have := a.den_pos; omega) (by have := b.den_pos; omega)
  rw [Rat.num_divInt_den, Rat.num_divInt_den] at h
  exact h
theorem sub_q (a b : Rat) : a - b = Rat.divInt (a.num * b.den - b.num * a.den) ((a.den : Int) * b.den) := by
  have h := Rat.divInt_sub_divInt a.num b.num (d₁ := a.den) (d₂ := b.den) (by have := a.den_pos; omega) (by have := b.den_pos; omega)
  rw [Rat.num_divInt_den, Rat.num_divInt_den] at h
  exact h
theorem mul_q (a b : Rat) : a * b = Rat.divInt (a.num * b.num) ((a.den : Int) * b.den) := by
  have h := Rat.divInt_mul_divInt a.num b.num (d₁ := a.den) (d₂ := b.den)
  rw [Rat.num_divInt_den, Rat.num_divInt_den] at h
  exact h
theorem den_mul_pos (a b : Rat) : (0 : Int) < (a.den : Int) * b.den := by
  have h1 := a.den_pos
  have h2 := b.den_pos
  exact Int.mul_pos (by omega) (by omega)
theorem dd_lt {a b : Rat} {s t : Nat} (ha : Sz s a) (hb : Sz t b) : ((a.den : Int) * b.den).natAbs < 2 ^ (s + t) := by
  rw [Int.natAbs_mul]
  exact lt_mul ha.2 hb.2
theorem nd_lt {a b : Rat} {s t : Nat} (ha : Sz s a) (hb : Sz t b) : (a.num * b.den).natAbs < 2 ^ (s + t) := by
  rw [Int.natAbs_mul]
  exact lt_mul ha.1 hb.2
theorem sum_lt {a b : Rat} {s t : Nat} (ha : Sz s a) (hb : Sz t b) : (a.num * b.den + b.num * a.den).natAbs < 2 ^ (s + t + 1) := by
  have h1 := nd_lt ha hb
  have h2 := nd_lt hb ha
  rw [Nat.add_comm t s] at h2
  have := Int.natAbs_add_le (a.num * b.den) (b.num * a.den)
  rw [Nat.pow_succ]; omega
theorem dif_lt {a b : Rat} {s t : Nat} (ha : Sz s a) (hb : Sz t b) : (a.num * b.den - b.num * a.den).natAbs < 2 ^ (s + t + 1) := by
  have h1 := nd_lt ha hb
  have h2 := nd_lt hb ha
  rw [Nat.add_comm t s] at h2
  have := Int.natAbs_sub_le (a.num * b.den) (b.num * a.den)
  rw [Nat.pow_succ]; omega
theorem Sz.add {a b : Rat} {s t : Nat} (ha : Sz s a) (hb : Sz t b) : Sz (s + t + 1) (a + b) := by
  rw [add_q]
  refine ⟨Nat.lt_of_le_of_lt (num_le _ (den_mul_pos a b)) (sum_lt ha hb), Nat.lt_of_le_of_lt (den_le _ (den_mul_pos a b)) ?_⟩
  exact Nat.lt_of_lt_of_le (dd_lt ha hb) (Nat.pow_le_pow_right (by decide) (by omega))
theorem Sz.sub {a b : Rat} {s t : Nat} (ha : Sz s a) (hb : Sz t b) : Sz (s + t + 1) (a - b) := by
  rw [sub_q]
  refine ⟨Nat.lt_of_le_of_lt (num_le _ (den_mul_pos a b)) (dif_lt ha hb), Nat.lt_of_le_of_lt (den_le _ (den_mul_pos a b)) ?_⟩
  exact Nat.lt_of_lt_of_le (dd_lt ha hb) (Nat.pow_le_pow_right (by decide) (by omega))
theorem Sz.mul {a b : Rat} {s t : Nat} (ha : Sz s a) (hb : Sz t b) : Sz (s + t) (a * b) := by
  rw [mul_q]
  refine ⟨Nat.lt_of_le_of_lt (num_le _ (den_mul_pos a b)) ?_, Nat.lt_of_le_of_lt (den_le _ (den_mul_pos a b)) (dd_lt ha hb)⟩
  rw [Int.natAbs_mul]
  exact lt_mul ha.1 hb.1
/-- what products and quotients take -/
@[irreducible] def Big (n : Nat) : Prop := n.log2 < 451
theorem big_of {s n : Nat} (h : n < 2 ^ s) (hs : s ≤ 450) : Big n := by
  unfold Big
  by_cases e : n = 0
  · subst e; decide
  · have := (Nat.log2_lt e).mpr h; omega
theorem big_le {m n : Nat} (h : m ≤ n) (hn : Big n) : Big m := by
  unfold Big at *
  by_cases e : m = 0
  · subst e; decide
  · by_cases e2 : n = 0
    · omega
    · refine (Nat.log2_lt e).mpr (Nat.lt_of_le_of_lt h ((Nat.log2_lt e2).mp hn))
theorem big_lt {n : Nat} (h : Big n) : n < 2 ^ 451 := by
  unfold Big at h
  by_cases e : n = 0
  · subst e; exact Nat.two_pow_pos _
  · exact (Nat.log2_lt e).mp h
theorem big_one : Big 1 := big_of (s := 1) (by decide) (by decide)
theorem mul_big {i j : Int} (hi : Big i.natAbs) (hj : Big j.natAbs) : mulOk i j = true := by
  unfold Big at hi hj
  unfold mulOk
  simp only [Bool.or_eq_true, decide_eq_true_eq]
  right
  omega
theorem fdiv_big {j : Int} (h0 : 0 < j) (hj : Big j.natAbs) : fdivOk j = true := by
  unfold Big at hj
  unfold fdivOk
  simp only [Bool.or_eq_true, decide_eq_true_eq]
  right
  exact ⟨h0, by omega⟩
theorem szn {s : Nat} {a : Rat} (h : Sz s a) (hs : s ≤ 450) : Big a.num.natAbs := big_of h.1 hs
theorem szd {s : Nat} {a : Rat} (h : Sz s a) (hs : s ≤ 450) : Big ((a.den : Nat) : Int).natAbs := big_of (n := ((a.den : Nat) : Int).natAbs) h.2 hs
theorem nn_lt {s t : Nat} {a b : Rat} (ha : Sz s a) (hb : Sz t b) : (a.num * b.num).natAbs < 2 ^ (s + t) := by
  rw [Int.natAbs_mul]; exact lt_mul ha.1 hb.1
def sumN : Nat → (Nat → Rat) → Rat
  | 0, _ => 0
  | n + 1, f => sumN n f + f n
theorem sumN_congr {f g : Nat → Rat} : ∀ {n : Nat}, (∀ j, j < n → f j = g j) → sumN n f = sumN n g
  | 0, _ => rfl
  | n + 1, h => by
    rw [sumN, sumN, sumN_congr fun j hj => h j (by omega), h n (by omega)]
theorem sumN_zero {n : Nat} : sumN n (fun _ => 0) = 0 := by
  induction n with
  | zero => rfl
  | succ n ih => rw [sumN, ih, Rat.add_zero]
theorem sumN_add {f g : Nat → Rat} : ∀ {n : Nat}, sumN n (fun j => f j + g j) = sumN n f + sumN n g
  | 0 => (Rat.add_zero 0).symm
  | n + 1 => by rw [sumN, sumN, sumN, sumN_add]; grind
theorem sumN_mul {f : Nat → Rat} {c : Rat} : ∀ {n : Nat}, sumN n (fun j => c * f j) = c * sumN n f
  | 0 => (Rat.mul_zero c).symm
  | n + 1 => by rw [sumN, sumN, sumN_mul, Rat.mul_add]
theorem sumN_mulr {f : Nat → Rat} {c : Rat} : ∀ {n : Nat}, sumN n (fun j => f j * c) = sumN n f * c
  | 0 => (Rat.zero_mul c).symm
  | n + 1 => by rw [sumN, sumN, sumN_mulr, Rat.add_mul]
theorem sumN_one {n i : Nat} {c : Rat} (h : i < n) : sumN n (fun j => if j = i then c else 0) = c := by
  induction n with
  | zero => omega
  | succ n ih =>
    rw [sumN]
    by_cases e : i = n
    · subst e
      rw [if_pos rfl, sumN_congr (g := fun _ => 0) fun j hj => if_neg (by omega), sumN_zero, Rat.zero_add]
    · rw [ih (by omega), if_neg (Ne.symm e), Rat.add_zero]
theorem sumN_swap {f : Nat → Nat → Rat} {m : Nat} : ∀ {n : Nat}, sumN m (fun i => sumN n (fun j => f i j)) = sumN n (fun j => sumN m (fun i => f i j))
  | 0 => sumN_zero
  | n + 1 => by
    have e : sumN m (fun i => sumN (n + 1) (fun j => f i j)) = sumN m (fun i => sumN n (fun j => f i j) + f i n) := rfl
    rw [e, sumN_add, sumN_swap (n := n)]
    rfl
theorem Sz.sum {s : Nat} {f : Nat → Rat} : ∀ {n : Nat}, (∀ j, j < n → Sz s (f j)) → Sz (n * (s + 1) + 1) (sumN n f)
  | 0, _ => Sz.zero (by omega)
  | n + 1, h => by
    have h1 := Sz.sum (n := n) fun j hj => h j (by omega)
    refine (h1.add (h n (by omega))).mono ?_
    rw [Nat.add_mul]; omega
end DL
namespace DL
open PySem
section
variable {ν : Type} (ev : ν → D)
theorem fold_kI : ∀ (r l : List (Nat × ν)), ((l ++ r).map (·.1)).Nodup → l.length + r.length ≤ 1000000 → foldO (stD false) (kvs kI ev l) (kvs kI ev r) = some (kvs kI ev (l ++ r))
  | [], l, _, _ => by simp [kvs, foldO]
  | p :: r, l, h, hl => by
    have hs : (kvs kI ev l).length < sizeLine := by rw [kvs_len, PySem.sizeLine_eq]; rw [List.length_cons] at hl; omega
    show (stD false (kvs kI ev l) (.int p.1, ev p.2)).bind _ = _
    unfold stD
    rw [if_pos hs, putB_kI]
    have hn : p.1 ∉ l.map (·.1) := by
      rw [List.map_append, List.nodup_append] at h
      intro q
      exact h.2.2 _ q p.1 (by simp) rfl
    have e : aPut l p.1 p.2 = l ++ [p] := by unfold aPut; rw [aGet_none.mpr hn]; rfl
    rw [e, Option.bind_some]
    rw [show l ++ p :: r = l ++ [p] ++ r by simp] at h ⊢
    exact fold_kI r (l ++ [p]) h (by simp at hl ⊢; omega)
theorem cmp_kI {md : Bool} {l : List (Nat × ν)} (h : (l.map (·.1)).Nodup) (hl : l.length ≤ 1000000) : cmpD md (stD false) [] (.dct false) (.dct false) (.ret (kvs kI ev l)) = finDO md (.dct false (kvs kI ev l)) (.dct false (kvs kI ev l)) := by
  funext M
  unfold cmpD
  have e : Mo.ne (.ret (kvs kI ev l) : Mo (List (D × D))) = .ret (kvs kI ev l) := rfl
  rw [e, bnd_r]
  have z := fold_kI ev l [] (by simpa using h) (by simpa using hl)
  rw [show kvs kI ev ([] : List (Nat × ν)) = [] from rfl, List.nil_append] at z
  rw [z]
theorem in_kI {l : List (Nat × ν)} {k : Nat} : inAll (.int k) (.dct false (kvs kI ev l)) = .ret (.bl (aGet l k).isSome) := by
  funext M
  unfold inAll
  show (match lookB false (kvs kI ev l) (.int k) with | some o => some (Except.ok (D.bl o.isSome), M) | none => none) = _
  rw [lookB_kI]
  simp only [Option.isSome_map]
  rfl
theorem sub_kI {l : List (Nat × ν)} {k : Nat} {v : ν} (h : aGet l k = some v) : subD' (.dct false (kvs kI ev l)) (.int k) = .ret (ev v) := by
  funext M
  exact sub_dct (M := M) (d := .dct false (kvs kI ev l)) rfl (by rw [lookB_kI, h]; rfl)
end
theorem slice_tup (l : List D) (lo hi : Option Int) : sliceD (.tup l) lo hi = .ret (.tup (cutD l lo hi)) := rfl
theorem cut_to {l : List D} {k : Nat} (h : k ≤ l.length) : cutD l none (some (k : Int)) = l.take k := by
  unfold cutD
  rw [HT.sIx_none, HT.sIx_nat, Nat.min_eq_left h]
  simp
theorem cut_from {l : List D} {k : Nat} : cutD l (some (k : Int)) none = l.drop k := by
  unfold cutD
  rw [HT.sIx_none, HT.sIx_nat]
  rw [List.take_of_length_le (by rw [List.length_drop]; omega)]
  by_cases h : k ≤ l.length
  · rw [Nat.min_eq_left h]
  · rw [Nat.min_eq_right (by omega), List.drop_of_length_le (by omega), List.drop_of_length_le (by omega)]
theorem pop_at {M : Mem} {n i : Nat} {l : List D} {d : D} (h : M[n]? = some (.lst l)) (hi : l[i]? = some d) (hl : l.length ≤ 1000000) : popD (.ref n) [.int i] M = some (.ok d, M.set n (.lst (l.eraseIdx i))) := by
  have hlt : i < l.length := (List.getElem?_eq_some_iff.mp hi).1
  unfold popD
  have hc : cur M (.ref n) = some (n, l) := by unfold cur; simp only [h]
  simp only [hc]
  have hb : -(2 ^ 63) ≤ (i : Int) ∧ (i : Int) < 2 ^ 63 := by omega
  have hs : seqIndex? (i : Int) l.length = some i := by
    unfold seqIndex?
    simp
    omega
  simp only [if_pos hb, hs, hi]
end DL
namespace DL
open PySem PySem.Spec PyProof.Rows L2
section
open PySem.SeqAt PySem.AutoSeq1 PySem.MeetsSeq PySem.MeetsSeq2 PySem.MeetsSeq3 PySem.SeqRoads2
variable {prog : Program} {w : World}
/-- the loop of !=, where all are equal -/
theorem neP_loop (p q : Addr) (xs ys : Array Value) (m m2 : Nat) (e1 e2 : Option Addr) (z1 z2 : Array (Option Value)) (hs : xs.size = ys.size) (r : Nat) :
    ∀ t : Nat, xs.size - t = r → MeetsIn prog w (Builtin.«list.__eq__.loop» ⟨[.ref p, .ref q, rawInt t, rawInt 3], []⟩)
      (fun A R s => s.heap.get? p = some { cls := .type "list", dict := e1, data := .seq xs m, slots := z1 } ∧ s.heap.get? q = some { cls := .type "list", dict := e2, data := .seq ys m2, slots := z2 } ∧
        (∀ j (h1 : j < xs.size) (h2 : j < ys.size), EqP prog w A.in1 s xs[j] ys[j] true) ∧
        R (.ok (.ret (.bool false))) s) := by
  induction r with
  | zero =>
    intro t hk A R s h
    obtain ⟨hp, g, d, tk, os⟩ := s
    obtain ⟨hl, hb, he, h⟩ := h
    wp_walk using wpAny_loadPart' hl, wpAny_loadPart' hb
    have g1 : xs[((t : Nat) : Int).toNat]? = none := by simp; omega
    have g2 : ys[((t : Nat) : Int).toNat]? = none := by simp; omega
    rw [g1, g2]
    wp_walk using wpAny_loadPart' hl, wpAny_loadPart' hb
    show R (.ok (.ret (.bool (xs.size != ys.size)))) _
    rw [hs]
    simpa using h
  | succ r ih =>
    intro t hk A R s h
    obtain ⟨hp, g, d, tk, os⟩ := s
    obtain ⟨hl, hb, he, h⟩ := h
    wp_walk using wpAny_loadPart' hl, wpAny_loadPart' hb
    have l1 : t < xs.size := by omega
    have l2 : t < ys.size := by omega
    have g1 : xs[((t : Nat) : Int).toNat]? = some xs[t] := by simp [l1]
    have g2 : ys[((t : Nat) : Int).toNat]? = some ys[t] := by simp [l2]
    have hc : ((t : Int) + 1) = ((t + 1 : Nat) : Int) := by push_cast; rfl
    rw [g1, g2]
    refine wpAny_bind (he t l1 l2 _ _ ?_)
    wp_walk
    rw [hc]
    exact ⟨plainId_quiet plain_eq_loop _, codeAny_builtin entry_eq_loop (by
      rw [Around.under_plainId plain_eq_loop _]
      exact ih (t + 1) (by omega) A R _ ⟨hl, hb, he, h⟩)⟩
theorem neP_list (p q : Addr) (xs ys : Array Value) (m m2 : Nat) (e1 e2 : Option Addr) (z1 z2 : Array (Option Value)) (hs : xs.size = ys.size) :
    MeetsIn prog w (Builtin.«list.__ne__» ⟨[.ref p, .ref q], []⟩)
      (fun A R s => s.heap.get? p = some { cls := .type "list", dict := e1, data := .seq xs m, slots := z1 } ∧ s.heap.get? q = some { cls := .type "list", dict := e2, data := .seq ys m2, slots := z2 } ∧
        (∀ j (h1 : j < xs.size) (h2 : j < ys.size), EqP prog w A.in1 s xs[j] ys[j] true) ∧
        R (.ok (.ret (.bool false))) s) := by
  intro A R s h
  obtain ⟨hp, g, d, tk, os⟩ := s
  obtain ⟨hl, hb, he, h⟩ := h
  have f3 := AutoSeq1.sub_list_list
  have hne : ¬ (xs.size != ys.size) = true := by simp [hs]
  wp_walk using wpAny_loadPart' hl, wpAny_loadPart' hb
  exact ⟨plainId_quiet plain_eq_loop _, codeAny_builtin entry_eq_loop (by
    rw [Around.under_plainId plain_eq_loop _]
    exact neP_loop p q xs ys m m2 e1 e2 z1 z2 hs _ 0 rfl A R _ ⟨hl, hb, he, h⟩)⟩
theorem neP_lists {A : Around} {s : Shared} {p q : Addr} {xs ys : Array Value} (hl : s.heap.IsList p xs) (hb : s.heap.IsList q ys) (hs : xs.size = ys.size) (hu : A.units < cLine)
    (he : ∀ j (h1 : j < xs.size) (h2 : j < ys.size), EqP prog w A.in1 s xs[j] ys[j] true) (E Q : Value → Shared → Prop) (h : Q (.bool false) s) : wpAny (model prog w) A (richCompare .NotEq (.ref p) (.ref q)) Q E s := by
  obtain ⟨⟨cls, e1, data, z1⟩, ho, hc, m, hd⟩ := id hl
  obtain ⟨⟨cls2, e2, data2, z2⟩, ho2, hc2, m2, hd2⟩ := id hb
  simp only at hc hd hc2 hd2
  subst hc hd hc2 hd2
  exact wpAny_richCompare_same_room (op := .NotEq) ⟨_, ho, rfl⟩ ⟨_, ho2, rfl⟩ F.slot_list_ne (call_meetsIn F.slot_list_ne ⟨_, ho, rfl⟩ F.entry_list_ne (F.args_list_ne_2 _ _) (neP_list p q xs ys m m2 e1 e2 z1 z2 hs)
    ⟨ho, ho2, he, show Value.bool false ≠ Value.notImplemented ∧ Q (.bool false) s from ⟨(fun x => nomatch x), h⟩⟩) hu
end
/-- the same data -/
def SameV (K : PySem.W.Frag) (H : Hp) (x y : V) : Prop := ∃ d, Dp K H x d ∧ Dp K H y d ∧ SeqAt.shaped d = true ∧ PyData.eqv d d = true
/-- two dicts with the same data -/
def SameK (K : PySem.W.Frag) (H : Hp) (x y : V) : Prop := ∃ a b ks ls, x = .ref a ∧ y = .ref b ∧ Rd H a (.dK ks) ∧ Rd H b (.dK ls) ∧ ks.length = ls.length ∧ ∀ p ∈ ks, ∃ u, valV ls p.1 = some u ∧ SameV K H p.2 u
def rNeL (K : PySem.W.Frag) : R2 := fun x y H Q => ∃ a b xs ys, x = .ref a ∧ y = .ref b ∧ SqL K H a xs ∧ SqL K H b ys ∧ Paired (SameK K H) xs ys ∧ Q (.bl false) H
theorem op_neL {X : Cx} (hu : X.A.units + 70 < cLine) : OpR X (compareOp .NotEq) (rNeL X.K) := by
  intro pins s σ H x y v u Q I rx ry h
  obtain ⟨a, b, xs, ys, rfl, rfl, ha, hb, hp, q⟩ := h
  cases (show v = Value.ref a from rx)
  cases (show u = Value.ref b from ry)
  obtain ⟨us, r1, p1, _⟩ := I.list ha
  obtain ⟨ws, r2, p2, _⟩ := I.list hb
  have hsz : us.toArray.size = ws.toArray.size := by
    rw [List.size_toArray, List.size_toArray, ← r1.length, ← r2.length]
    exact Paired.length hp
  have i1 : ∀ x y v u, SameV X.K H x y → RelV x v → RelV y u → SeqAt.EqP X.prog X.w X.A.in1.in1 s v u true := by
    intro x y v u ⟨d, h1, h2, h3, h4⟩ q1 q2
    obtain ⟨as, e1⟩ := Dp.reads I d x v h1 q1
    obtain ⟨bs, e2⟩ := Dp.reads I d y u h2 q2
    have hd : d.depth ≤ 64 := by
      unfold SeqAt.shaped at h3
      simp only [Bool.and_eq_true, decide_eq_true_eq] at h3
      exact h3.2
    have hc : d.canLay0 = true := by
      unfold SeqAt.shaped at h3
      simp only [Bool.and_eq_true] at h3
      exact h3.1
    have z := SeqAt.eqAt_reads d d X.A.in1.in1 s v u as bs e1 e2 hc hc (by
      show X.A.units + 1 + 1 + min d.depth d.depth < cLine
      omega)
    rw [h4] at z
    exact z.eqP
  have i2 : ∀ x y v u, SameK X.K H x y → RelV x v → RelV y u → SeqAt.EqP X.prog X.w X.A.in1 s v u true := by
    intro x y v u ⟨a, b, ks, ls, e1, e2, h1, h2, h3, h4⟩ q1 q2
    subst e1 e2
    cases (show v = Value.ref a from q1)
    cases (show u = Value.ref b from q2)
    obtain ⟨_, ya, va, ra, da⟩ := h1.ok I.hok
    obtain ⟨_, yb, vb, rb, db⟩ := h2.ok I.hok
    have e : va.length = vb.length := by rw [← ra.length, ← rb.length]; exact h3
    have step : ∀ (E Q : Value → Shared → Prop), Q (.bool true) s → wpAny (model X.prog X.w) X.A.in1 (richCompare .Eq (.ref a) (.ref b)) Q E s := fun E Q q => by
      refine PySem.W.rcP_dicts (knd := mixKind X.prog X.w) (r := true) ya yb da db (by show X.A.units + 1 < cLine; omega) (fun _ => hits_run i1 rb ra h4) E Q ?_
      rw [show (va.length == vb.length && true) = true from by rw [e]; simp]
      exact q
    by_cases e : a = b
    · subst e
      exact (SeqAt.EqAt.same _).eqP
    · exact SeqAt.eqP_refs e step
  refine neP_lists p1.isList p2.isList hsz (by omega) (fun j h1 h2 => ?_) _ _ ⟨.bl false, H, I, rfl, q⟩
  have k := items_run i2 hp r1 r2 j (by simpa using h1) (by simpa using h2)
  simpa using k
def dOk (ds : List (DL.D × DL.D)) : Prop := ∀ p ∈ ds, ∃ k pd, toK p.1 = some k ∧ findG toK ds k = some p.2 ∧ py p.2 = some pd ∧ SeqAt.shaped pd = true ∧ PyData.eqv pd pd = true
def lOk (d : DL.D) : Prop := ∃ l, d = .lst l ∧ ∀ e ∈ l, ∃ ds, e = .dct false ds ∧ dOk ds
open Classical in
noncomputable def neX (a b : DL.D) : Mo DL.D := fun M => match eqB M a b with
  | some c => some (.ok (.bl (!c)), M)
  | none => if a = b ∧ lOk a then some (.ok (.bl false), M) else none
theorem rpk_mem {K : KP} {W : Wd} : ∀ {kvs : List (Key × V)} {ds : List (DL.D × DL.D)}, RpK K W kvs ds → ∀ p ∈ kvs, ∃ d, (kD p.1, d) ∈ ds ∧ Rp K W p.2 d
  | _, _, .nil, p, h => by cases h
  | _, _, .cons (k := k) (v := v) (d := d) r rr, p, h => by
    rcases List.mem_cons.mp h with rfl | h
    · exact ⟨d, List.mem_cons_self, r⟩
    · obtain ⟨d', h1, h2⟩ := rpk_mem rr p h
      exact ⟨d', List.mem_cons_of_mem _ h1, h2⟩
theorem same_dct {K : KP} {W : Wd} {x y : V} {ds : List (DL.D × DL.D)} (k : Ok K W) (rx : Rp K W x (.dct false ds)) (ry : Rp K W y (.dct false ds)) (h : dOk ds) : SameK K.K W.H x y := by
  cases rx with
  | @dK a ks _ h1 f1 p1 =>
    cases ry with
    | @dK b ls _ h2 f2 p2 =>
      refine ⟨a, b, ks, ls, rfl, rfl, h1, h2, by rw [rpk_len p1, rpk_len p2], fun p hp => ?_⟩
      obtain ⟨d, hd, rd⟩ := rpk_mem p1 p hp
      obtain ⟨k', pd, e1, e2, e3, e4, e5⟩ := h _ hd
      rw [toK_kD] at e1
      cases e1
      obtain ⟨u, hu, ru⟩ := (findG_k (k := p.1) p2).1 _ e2
      exact ⟨u, hu, pd, rp_dp rd e3, rp_dp ru e3, e4, e5⟩
theorem same_lst {K : KP} {W : Wd} (k : Ok K W) : ∀ {xs ys : List V} {l : List DL.D}, RpA K W xs l → RpA K W ys l → (∀ e ∈ l, ∃ ds, e = .dct false ds ∧ dOk ds) → Paired (SameK K.K W.H) xs ys
  | _, _, [], .nil, .nil, _ => .nil
  | _, _, d :: l, .cons r1 s1, .cons r2 s2, h => by
    obtain ⟨ds, rfl, hd⟩ := h d List.mem_cons_self
    exact .cons (same_dct k r1 r2 hd) (same_lst k s1 s2 fun e he => h e (List.mem_cons_of_mem _ he))
section
variable {S : SC}
theorem ox_neX : OX S (compareOp .NotEq) neX := by
  refine ⟨⟨fun x y H Q => rNeD S.F x y H Q ∨ rNeL S.F x y H Q, fun X c => by
    have z := (op_neD (X := X) (by have z := hu_of' c; omega)).or (op_neL (X := X) (by have z := c.room.un; omega))
    rw [c.K] at z; exact z, fun W σ x y a b Q k rx ry h => ?_⟩⟩
  unfold neX at h
  cases e : eqB W.M a b with
  | some c =>
    rw [e] at h
    obtain ⟨d, e, h1, h2, h3, h4, h5⟩ := eqB_run k rx ry e
    exact .inl ⟨d, e, h1, h2, h3, h4, by rw [h5]; exact post_ok k h _ (.bl (!c))⟩
  | none =>
    rw [e] at h
    by_cases q : a = b ∧ lOk a
    · simp only [if_pos q] at h
      obtain ⟨rfl, l, rfl, hl⟩ := q
      obtain ⟨p1, xs, rfl, s1, r1⟩ := rd_lst k rx (by rfl)
      obtain ⟨p2, ys, rfl, s2, r2⟩ := rd_lst k ry (by rfl)
      exact .inr ⟨p1, p2, xs, ys, rfl, rfl, s1, s2, same_lst k r1 r2 hl, post_ok k h _ (.bl false)⟩
    · simp only [if_neg q] at h
      exact h.elim
end
end DL
namespace DL
open PySem PySem.Spec PyProof.Rows L2 LamX
/-- the table at P has grown; code objects are new -/
def Lamed (P : Addr) (q : Str) (H H' : Hp) : Prop := LamT H' P q ∧ ∀ b, b ≠ P → H' b = H b ∨ (H b = none ∧ ∃ oc u, H' b = some (.frz oc u))
section
variable {X : Cx} {pins : List (Addr × Obj)} {σ : L2.St} {H : Hp} {s : Shared}
/-- a lambda is made -/
theorem lam_mk {c P : Addr} {params : Arguments} {body : Expr} {scope : Scope} {pos : Pos} {E : Value → Shared → Prop} {Q : Value → Shared → Prop} (I : Inv X pins σ H s) (TB : GxR.TabB X.base X.mg c P) (hcode : X.env.code = .ref c)
    (hT : LamT H P (X.env.qual ++ "<lambda>")) (hdef : defaultsOf params X.env = ([], [])) (hfree : ∀ y ∈ scope.names, y.2 = .free → ∃ c, X.env.cells.lookup y.1 = some c)
    (h : ∀ (f c' : Addr) (pm ctv : Value) (H1 : Hp) (s' : Shared), Inv X pins σ H1 s' → Lamed P (X.env.qual ++ "<lambda>") H H1 →
      s'.heap.get? f = some (PySem.W.kla_obj "<lambda>" (X.env.qual ++ "<lambda>") params body scope (cloFrom X.env.cells scope.names []) pm c' ctv) → s'.heap.CodeRec (.ref c') (X.env.qual ++ "<lambda>") → Q (.ref f) s') :
    wpAny (model X.prog X.w) X.A (eval (.Lambda params body scope pos) X.env) Q E s := by
  obtain ⟨ps, hP, ht, ha⟩ := hT
  refine PySem.W.kla_eval hdef ?_
  have bP : s.heap.BuiltinsAt X.mg P := TB.bm.keeps I.bk
  have hP' : s.heap.get? P = some { cls := .none, data := .fields ps } := I.hok P _ hP
  cases hc : codeAmong pos ps.toList with
  | none =>
    refine PySem.W.kla_makeFunction (mg := X.mg) (c := c) (P := P) (ps := ps) (closure_ok hfree) I.ok.glob (I.mod.glob.keeps I.bk) hcode (TB.code.keeps I.bk) hP' ht hc TB.gP bP fun c' ctv h' tk hx hge hlt hrec htb => ?_
    obtain ⟨c2, oc, vs, t, e2, hoc, hd, hv⟩ := hrec
    cases e2
    have nC : H c' = none := I.hok.fresh hge
    have I1 := inv_table (t' := tk) (q := X.env.qual ++ "<lambda>") (more := #[rawInt pos.line, rawInt pos.col, .ref c']) (h' := h'.push (PySem.W.kla_obj "<lambda>" (X.env.qual ++ "<lambda>") params body scope (cloFrom X.env.cells scope.names []) ((X.mg "__name__").getD .none) c' ctv)) I hP
      (fun b o hb e => Heap.get?_push_of_some _ (hx b o hb e)) (Heap.get?_push_of_some _ htb) hge ⟨oc, vs, t, Heap.get?_push_of_some _ hoc, hd, hv⟩
    obtain ⟨od, I2⟩ := I1.lock (d := c') upd_same True.intro
    have eod : od = oc := by
      have z := (I2.hok c' _ upd_same).1
      have z2 := Heap.get?_push_of_some (PySem.W.kla_obj "<lambda>" (X.env.qual ++ "<lambda>") params body scope (cloFrom X.env.cells scope.names []) ((X.mg "__name__").getD .none) c' ctv) hoc
      exact Option.some.inj (z.symm.trans z2)
    subst eod
    refine h h'.objs.size c' _ ctv _ _ I2 ⟨?_, fun b hb => ?_⟩ (Heap.get?_push_size _ rfl) ⟨c', od, vs, t, rfl, Heap.get?_push_of_some _ hoc, hd, hv⟩
    · refine ⟨_, by rw [upd_ne (ne_of_none hP nC), upd_ne (ne_of_none hP nC), upd_same], by simpa using PySem.TriplesOk_snoc _ _ _ _ ht, fun p' cv hcv => ?_⟩
      have eL : (ps ++ #[rawInt pos.line, rawInt pos.col, .ref c']).toList = ps.toList ++ [rawInt pos.line, rawInt pos.col, .ref c'] := by simp
      rw [eL] at hcv
      rcases among_app _ ht hcv with z | z
      · obtain ⟨c0, oc0, u0, vs0, t0, e1, e2, e3⟩ := ha p' cv z
        refine ⟨c0, oc0, u0, vs0, t0, e1, ?_, e3⟩
        have n0 : c0 ≠ c' := ne_of_none e2 nC
        have n1 : c0 ≠ P := fun z => by rw [z, hP] at e2; cases e2
        rw [upd_ne n0, upd_ne n0, upd_ne n1]
        exact e2
      · exact ⟨c', od, _, vs, t, z, upd_same, hd, hv⟩
    · by_cases e : b = c'
      · subst e
        exact .inr ⟨nC, _, _, upd_same⟩
      · exact .inl (by rw [upd_ne e, upd_ne e, upd_ne hb])
  | some cv =>
    obtain ⟨c', oc, u, vs, t, e, hco, hd, hv⟩ := ha pos cv hc
    subst e
    refine PySem.W.kla_makeFunctionHit (mg := X.mg) (c := c) (P := P) (ps := ps) (closure_ok hfree) I.ok.glob (I.mod.glob.keeps I.bk) hcode (TB.code.keeps I.bk) hP' ht hc bP fun ctv h' tk hx hsz => ?_
    have I1 : Inv X pins σ H { s with heap := h'.push (PySem.W.kla_obj "<lambda>" (X.env.qual ++ "<lambda>") params body scope (cloFrom X.env.cells scope.names []) ((X.mg "__name__").getD .none) c' ctv), toks := tk } := I.kept fun b o e => Heap.get?_push_of_some _ (hx b o e)
    exact h h'.objs.size c' ((X.mg "__name__").getD .none) ctv H _ I1 ⟨⟨ps, hP, ht, ha⟩, fun b hb => .inl rfl⟩ (Heap.get?_push_size _ rfl) ⟨c', oc, vs, t, rfl, (I1.hok c' _ hco).1, hd, hv⟩
/-- the call of the lambda: it keeps all that was there -/
theorem lam_key {q pl on : Str} {params : Arguments} {scope : Scope} {p1 p2 p3 : Pos} {f c' : Addr} {pm ctv : Value} {cl : List (Str × Addr)} {A : Around} {cp : Addr} {t : Addr} {ps : Array Value} {n key : Int} {u : Tok}
    (hroom : A.depth + 1 < recursionLimit) (hk : scope.kind = .function) (hco : scope.isCoroutine = false) (hgen : scope.isGenerator = false) (hcell : ∀ y ∈ scope.names, y.2 ≠ .cell) (hl1 : scope.names.lookup on = some .local) (hl2 : scope.names.lookup pl = some .free)
    (d1 : (on == ("__debug__" : Str)) = false) (d2 : (pl == ("__debug__" : Str)) = false) (d3 : (pl == ("__classdict__" : Str)) = false)
    (hbind : ∀ v : Value, bindArgs (PySem.W.kla_fn "<lambda>" q params (.Subscript (.Name pl p1) (.Name on p2) p3) scope cl pm (.ref c') ctv) ⟨[v], []⟩ = pure [(on, v)])
    (hcl : cl.lookup pl = some cp) (nl : s.heap.NoLimit)
    (hf : s.heap.get? f = some (PySem.W.kla_obj "<lambda>" q params (.Subscript (.Name pl p1) (.Name on p2) p3) scope cl pm c' ctv)) (hcd : s.heap.CodeRec (.ref c') q)
    (hcp : s.heap.IsCell cp (some (.ref t))) (ht : IsTup s.heap t ps) (h0 : 0 ≤ n) (hb : n < 2 ^ 63) (hx : ∃ w : Tok, ps[n.toNat]? = some (.int key w)) :
    wpAny (model X.prog X.w) A (call (.ref f) [.int n u]) (PySem.W.KeyPure (.int key) s) (fun _ _ => False) s := by
  refine wpAny_call ?_
  refine PySem.W.kla_callFunE (by omega) hf rfl hco hgen rfl hcd ?_
  rw [hbind]
  refine wpAny_pure (wpAny_newFunctionEnv hcell (fun y hy => by rw [List.mem_singleton.mp hy]; exact hl1) (fun h₁ hns hsb => ⟨nl.fresh _ hsb, ?_⟩) hk)
  have kp : ∀ b o, s.heap.get? b = some o → h₁.get? b = some o := fun b o e => hsb.extBut b o (Nat.ne_of_lt (Heap.lt_size e)) (Heap.get?_push_of_some _ e)
  refine PySem.W.kla_codeExpr ?_
  have fin : PySem.W.KeyPure (.int key) s (.int key hx.choose) { s with heap := h₁, toks := s.toks + [(on, Value.int n u)].length } := ⟨h₁, _, rfl, kp, .int _ _⟩
  refine wpAny_Subscript_Name F.slot_tuple_getitem.lookup ?_
  refine wpAny_Name (wpAny_loadName_free hk hl2 hcl (hcp.keeps kp) ?_ d3) d2
  refine wpAny_Name (wpAny_loadName_local (v := .int n u) hk hl1 hns (by simp) ?_) d1
  refine ⟨(ht.keeps kp).typeIs, ?_⟩
  exact getItem_tuple (ht.keeps kp) (by omega) hb (seqIndex_of h0 (by
    have := (Array.getElem?_eq_some_iff.mp hx.choose_spec).1
    omega)) hx.choose_spec fin
end
def keyI (ps : List Int) (n : Int) : PyData := .int (ps.getD n.toNat 0)
def sortI (ps ns : List Int) : List Int := ns.mergeSort (PySem.W.dataLe false (keyI ps))
def SortPre (K : PySem.W.Frag) (P : Addr) (q : Str) (i : Nat) (σ : L2.St) (Q : VK) (x : V) (H1 : Hp) : Prop := ∃ (a t : Addr) (ns ps : List Int), x = .ref a ∧ SqL K H1 a (ns.map V.int) ∧ σ[i]? = some (some (.ref t)) ∧ SqT K H1 t (ps.map V.int) ∧ (∀ n ∈ ns, 0 ≤ n ∧ n.toNat < ps.length) ∧ LamT H1 P q ∧
  ∀ H2, Lamed P q H1 H2 → ∀ p, H2 p = none → Q (.ref p) (upd H2 p (.lst ((sortI ps ns).map V.int)))
def tSortL (K : PySem.W.Frag) (P : Addr) (q : Str) (i : Nat) (te : TE) : TE := fun σ H Q => te σ H (SortPre K P q i σ Q)
theorem each_ints {vs : List Value} {ns : List Int} (h : Vals (ns.map V.int) vs) : PySem.W.EachIs (fun u n => ∃ t, u = Value.int n t) vs ns := by
  induction ns generalizing vs with
  | nil => cases h; exact .nil
  | cons n r ih =>
    cases h with
    | cons a b =>
      obtain ⟨t, e⟩ := a
      exact .cons ⟨t, e⟩ (ih b)
theorem ints_each {vs : List Value} {ns : List Int} (h : PySem.W.EachIs (fun u n => ∃ t, u = Value.int n t) vs ns) : Vals (ns.map V.int) vs := by
  induction h with
  | nil => exact .nil
  | cons a _ ih =>
    obtain ⟨t, e⟩ := a
    exact .cons ⟨t, e⟩ ih
theorem vals_get {ps : List Int} {us : List Value} (h : Vals (ps.map V.int) us) {j : Nat} (hj : j < ps.length) : ∃ w : Tok, us.toArray[j]? = some (.int (ps.getD j 0) w) := by
  induction ps generalizing us j with
  | nil => simp at hj
  | cons p r ih =>
    cases h with
    | cons a b =>
      cases j with
      | zero =>
        obtain ⟨t, e⟩ := a
        exact ⟨t, by simp [e]⟩
      | succ j =>
        obtain ⟨w, e⟩ := ih b (j := j) (by simpa using hj)
        exact ⟨w, by simpa using e⟩
section
variable {X : Cx}
theorem pe_sortL {c P : Addr} {k i : Nat} {e : Expr} {q pl on : Str} {params : Arguments} {scope : Scope} {lpos kpos p p1 p2 p3 pos : Pos} {te : TE} (hr : Room k X.A) (hg : Gl X "sorted") (hm : X.mg "sorted" = none) (TB : GxR.TabB X.base X.mg c P) (hcode : X.env.code = .ref c) (hq : X.env.qual ++ "<lambda>" = q)
    (hdef : defaultsOf params X.env = ([], [])) (hN : X.N[i]? = some pl) (hv : X.env.scope.names.lookup pl = some .cell ∨ X.env.scope.names.lookup pl = some .free)
    (hk : scope.kind = .function) (hco : scope.isCoroutine = false) (hgen : scope.isGenerator = false) (hcell : ∀ y ∈ scope.names, y.2 ≠ .cell) (hl1 : scope.names.lookup on = some .local) (hl2 : scope.names.lookup pl = some .free)
    (hfr : ∀ y ∈ scope.names, y.2 = .free → X.env.scope.names.lookup y.1 = some .cell ∨ X.env.scope.names.lookup y.1 = some .free)
    (d1 : (on == ("__debug__" : Str)) = false) (d2 : (pl == ("__debug__" : Str)) = false) (d3 : (pl == ("__classdict__" : Str)) = false)
    (hbind : ∀ (cl : List (Str × Addr)) (pm cv ctv v : Value), bindArgs (PySem.W.kla_fn "<lambda>" q params (.Subscript (.Name pl p1) (.Name on p2) p3) scope cl pm cv ctv) ⟨[v], []⟩ = pure [(on, v)])
    (he : PE X e te) (hst : starEach [e] X.env = (false, eval e X.env) :: starEach [] X.env := by rfl) :
    PE X (.Call (.Name "sorted" p) [e] [⟨some "key", .Lambda params (.Subscript (.Name pl p1) (.Name on p2) p3) scope lpos, kpos⟩] pos) (tSortL X.K P q i te) := by
  subst hq
  refine ⟨fun pins s σ H Q I h => ?_⟩
  refine wpAny_Call_Name_kw (ld_blt I hg hm (by rfl) ?_)
  refine PyProof.Rows.callWith_kw ?_ (by rw [hst]; rfl) (by rw [hst]; rfl)
  have ha : PA X [e] (tCons te tNil) := pa_cons he pa_nil hst
  refine thn (ha.run pos pins s σ H (fun vs H1 => match vs with | [x] => SortPre X.K P (X.env.qual ++ "<lambda>") i σ Q x H1 | _ => False) I h) fun us s1 h1 => ?_
  obtain ⟨vs, H1, I1, r1, h1⟩ := h1
  match vs, r1, h1 with
  | [x], .cons rx .nil, h1 =>
    rename_i u0
    obtain ⟨a, t, ns, ps, rfl, hl, hσ, ht, hns, hL, q⟩ := h1
    cases (show u0 = Value.ref a from rx)
    show wpAny _ _ (evalAll ((do let v ← eval (.Lambda params (.Subscript (.Name pl p1) (.Name on p2) p3) scope lpos) X.env; standAt pos; pure v) :: [])) _ _ s1
    have hfree : ∀ y ∈ scope.names, y.2 = .free → ∃ c, X.env.cells.lookup y.1 = some c := fun y hy e => I1.ok.has _ (hfr y hy e)
    refine wpAny_evalAll_cons (wpAny_bind (lam_mk I1 TB hcode hL hdef hfree fun f c' pm ctv H2 s2 I2 lm hf hcd => wpAny_bind (wpAny_standAt (wpAny_pure (wpAny_evalAll_nil ?_)))))
    -- the call
    have keepH : ∀ b o, H1 b = some o → b ≠ P → H2 b = some o := fun b o e hb => by
      rcases lm.2 b hb with z | ⟨z, _⟩
      · rw [z]; exact e
      · rw [e] at z; cases z
    have rdP : ∀ {b : Addr} {u : HO}, (∀ ps, u ≠ .tbl ps) → Rd H1 b u → Rd H2 b u := fun {b u} hu hh => by
      obtain ⟨ps0, e0, _⟩ := hL
      have hne : b ≠ P := fun z => by
        rw [z] at hh
        rcases hh with hh | ⟨o, hh⟩ <;> rw [e0] at hh <;> cases hh
        exact hu _ rfl
      rcases hh with hh | ⟨o, hh⟩
      · exact .inl (keepH _ _ hh hne)
      · exact .inr ⟨o, keepH _ _ hh hne⟩
    have hl2' : SqL X.K H2 a (ns.map V.int) := hl.imp (rdP (by intro ps z; cases z)) id
    have ht2 : SqT X.K H2 t (ps.map V.int) := ht.imp (rdP (by intro ps z; cases z)) id
    obtain ⟨its, rv, pl1, hz⟩ := I2.list hl2'
    obtain ⟨tis, rt, pt1, hzt⟩ := I2.tuple ht2
    have he1 := each_ints rv
    -- the cell
    obtain ⟨m, hn, hloc⟩ := I2.loc
    have hvis : Vis X.env.scope pl := hv.elim (fun k => .inr (.inl k)) (fun k => .inr (.inr k))
    obtain ⟨w0, rw0, hw⟩ := hloc i pl (.ref t) hN hσ hvis
    cases (show w0 = Value.ref t from rw0)
    have hcell2 : ∃ cp, X.env.cells.lookup pl = some cp ∧ s2.heap.IsCell cp (some (.ref t)) := by
      rcases hw with ⟨k1, _⟩ | ⟨_, cp, e1, e2⟩
      · have k1 : X.env.scope.names.lookup pl = some .local := k1
        rcases hv with k2 | k2 <;> rw [k2] at k1 <;> cases k1
      · exact ⟨cp, e1, e2⟩
    obtain ⟨cp, hc1, hc2⟩ := hcell2
    have hcl : (cloFrom X.env.cells scope.names []).lookup pl = some cp := by
      obtain ⟨c2, e2⟩ := mem_lookup (cloFrom_has (cells := X.env.cells) (acc := []) (PySem.mem_of_lookup hl2))
      rcases cloFrom_mem (PySem.mem_of_lookup e2) with hm | ⟨_, e3⟩
      · cases hm
      · rw [e2, e3, hc1]; rfl
    have hlen : ns.length ≤ sizeLine := by
      rw [List.length_map] at hz; exact hz
    refine PySem.W.sorted_key_data (b := false) (vs := its) (bs := ns) (R := fun u n => ∃ t, u = Value.int n t) (keyI ps) pl1.isList he1 (PySem.W.AllAlike.of fun _ _ => rfl) (.inr fun d hd => ?_) hlen (fun n _ => ?_) (PyProof.Rows.ksk_s1 _ _) (fun _ => PyProof.Rows.ksk_l1 _ _) (fun _ => PyProof.Rows.ksk_t1 _ _)
      (fun v n ⟨tk0, e0⟩ hmem h tk kp => ?_) fun out c2 h' tk kp hnone hD hlo eo => ?_
    · obtain ⟨n, _, rfl⟩ := List.mem_map.mp hd
      exact ⟨(fun z => by unfold keyI at z; cases z), (fun xs z => by unfold keyI at z; cases z)⟩
    · have := hr.un
      show X.A.units + 2 + 0 < cLine
      omega
    · subst e0
      obtain ⟨g0, g1⟩ := hns n hmem
      obtain ⟨w1, e1⟩ := vals_get rt g1
      have hps : ps.length ≤ sizeLine := by
        rw [List.length_map] at hzt; exact hzt
      rw [PySem.sizeLine_eq] at hps
      refine lam_key (cl := cloFrom X.env.cells scope.names []) (cp := cp) (t := t) (ps := tis.toArray) (key := ps.getD n.toNat 0) (by have := hr.dp; show X.A.depth + 1 < recursionLimit; omega) hk hco hgen hcell hl1 hl2 d1 d2 d3 (fun v => hbind _ _ _ _ _) hcl
        ?_ (kp _ _ hf) ?_ (hc2.keeps kp) (pt1.keeps kp) g0 (by omega) ⟨w1, e1⟩
      · exact I2.nolimit.keeps kp
      · obtain ⟨c3, oc, vs3, t3, e3, e4, e5, e6⟩ := hcd
        exact ⟨c3, oc, vs3, t3, e3, kp _ _ e4, e5, e6⟩
    · have hv2 := ints_each eo
      have hlo2 : ((sortI ps ns).map V.int).length ≤ sizeLine := by
        rw [List.length_map]
        unfold sortI
        rw [List.length_mergeSort]
        exact hlen
      exact ⟨.ref _, upd H2 (s2.heap.objs.size + 1) (.lst ((sortI ps ns).map V.int)), I2.laid (t' := tk) (fun b o e => kp b o e) (Nat.le_succ _) ⟨hlo2, out, c2, hv2, hD⟩, rfl, q H2 lm _ (I2.hok.fresh (Nat.le_succ _))⟩
end
section
variable {K : KP} {W : Wd} {P : Addr} {q : Str} {H2 : Hp}
theorem lamed_keep (k : Ok K W) (hP : (P, q) ∈ K.lams) (t : Lamed P q W.H H2) {b : Addr} {u : HO} (e : W.H b = some u) (hb : b ≠ P) : H2 b = some u := by
  rcases t.2 b hb with z | ⟨z, _⟩
  · rw [z]; exact e
  · rw [e] at z; cases z
theorem le_lam (k : Ok K W) (hP : (P, q) ∈ K.lams) (t : Lamed P q W.H H2) : Le K W (W.tab H2) := by
  obtain ⟨⟨ps, e0, _⟩, t1, t2, t3, t4⟩ := k.lm (P, q) hP
  have hr : ∀ {a : Addr} {u : HO}, (∀ ps, u ≠ .tbl ps) → Rd W.H a u → Rd H2 a u := fun {a u} hu h => by
    have hne : a ≠ P := fun z => by
      rw [z] at h
      rcases h with h | ⟨o, h⟩ <;> rw [e0] at h <;> cases h
      exact hu _ rfl
    rcases h with h | ⟨o, h⟩
    · exact .inl (lamed_keep k hP t h hne)
    · exact .inr ⟨o, lamed_keep k hP t h hne⟩
  refine ⟨fun _ _ h => h, fun a xs h => ?_, fun a xs h f => ⟨hr (by intro z q; cases q) h, f⟩, fun a xs h f => ⟨hr (by intro z q; cases q) h, f⟩, fun a xs h f => ⟨hr (by intro z q; cases q) h, f⟩, fun a o u h => ?_, fun a h => ⟨h, ?_⟩⟩
  · rcases h with h | h
    · exact .inl (hr (by intro z q; cases q) h)
    · exact .inr h
  · exact lamed_keep k hP t h fun z => by rw [z, e0] at h; cases h
  · obtain ⟨u, e⟩ := k.ph a h
    show H2 a = W.H a
    rw [e]
    exact lamed_keep k hP t e fun z => t2 (z ▸ h)
theorem Ok.lam (k : Ok K W) (hP : (P, q) ∈ K.lams) (t : Lamed P q W.H H2) : Ok K (W.tab H2) := by
  obtain ⟨t0, t1, t2, t3, t4⟩ := k.lm (P, q) hP
  have same : ∀ a, a ≠ P → (∃ u, W.H a = some u) → H2 a = W.H a := fun a hne ⟨u, e⟩ => by rw [e]; exact lamed_keep k hP t e hne
  refine ⟨k.len, k.nd, fun n a o h1 h2 => (k.ob n a o h1 h2).mono (le_lam k hP t) (same a (fun z => t1 (z ▸ List.mem_of_getElem? h1)) ?_), k.pn, fun a h => ?_, fun a h => ?_, fun p h => ?_⟩
  · obtain ⟨u, e, _⟩ := (k.ob n a o h1 h2).there
    exact ⟨u, e⟩
  · obtain ⟨u, e⟩ := k.ph a h
    exact ⟨u, lamed_keep k hP t e fun z => t2 (z ▸ h)⟩
  · obtain ⟨⟨ps, e, z⟩, u1, u2⟩ := k.tb a h
    exact ⟨⟨ps, lamed_keep k hP t e fun y => t3 (y ▸ h), z⟩, u1, u2⟩
  · obtain ⟨u0, u1, u2, u3, u4⟩ := k.lm p h
    refine ⟨?_, u1, u2, u3, u4⟩
    by_cases e : p.1 = P
    · rw [e, t4 p h e]
      exact t.1
    · obtain ⟨ps, e1, _⟩ := u0
      exact (k.lm p h).1.mono (same p.1 e ⟨_, e1⟩) (le_lam k hP t).z
end
def intsL (M : Mem) (d : DL.D) : Option (List Int) := match res M d with
  | .lst l => l.mapM toI
  | _ => none
def intsT (d : DL.D) : Option (List Int) := match d with
  | .tup l => l.mapM toI
  | _ => none
def sortLD (md : Bool) (a b : DL.D) : Mo DL.D := fun M => match intsT a, intsL M b with
  | some ps, some ns => cond (ns.all fun n => decide (0 ≤ n) && decide (n.toNat < ps.length)) (finD md ((sortI ps ns).map .int) M) none
  | _, _ => none
section
variable {S : SC}
theorem ex_sortL (md : Bool) {c P : Addr} {i : Nat} {e : Expr} {q qq pl on : Str} {params : Arguments} {scope : Scope} {lpos kpos p p1 p2 p3 pos : Pos} {fe : En → Mo DL.D} (hg : Gs S "sorted") (hm : S.mg "sorted" = none) (TB : GxR.TabB S.base S.mg c P) (hcode : S.code = some (.ref c)) (hql : S.ql = some qq) (hq : qq ++ "<lambda>" = q) (hP : (P, q) ∈ S.ls)
    (hN : S.N[i]? = some pl) (hv : S.sc.names.lookup pl = some .cell ∨ S.sc.names.lookup pl = some .free)
    (hk : scope.kind = .function) (hco : scope.isCoroutine = false) (hgen : scope.isGenerator = false) (hcell : ∀ y ∈ scope.names, y.2 ≠ .cell) (hl1 : scope.names.lookup on = some .local) (hl2 : scope.names.lookup pl = some .free)
    (hfr : ∀ y ∈ scope.names, y.2 = .free → S.sc.names.lookup y.1 = some .cell ∨ S.sc.names.lookup y.1 = some .free)
    (d1 : (on == ("__debug__" : Str)) = false) (d2 : (pl == ("__debug__" : Str)) = false) (d3 : (pl == ("__classdict__" : Str)) = false)
    (hdef : ∀ env : PySem.Env, defaultsOf params env = ([], []))
    (hbind : ∀ (cl : List (Str × Addr)) (pm cv ctv v : Value), bindArgs (PySem.W.kla_fn "<lambda>" q params (.Subscript (.Name pl p1) (.Name on p2) p3) scope cl pm cv ctv) ⟨[v], []⟩ = pure [(on, v)])
    (he : EX S e fe) (hst : ∀ env : PySem.Env, starEach [e] env = (false, eval e env) :: starEach [] env := by intro; rfl) :
    EX S (.Call (.Name "sorted" p) [e] [⟨some "key", .Lambda params (.Subscript (.Name pl p1) (.Name on p2) p3) scope lpos, kpos⟩] pos) (fun ρ => .bnd (fe ρ) fun b => .bnd (getV ρ i) fun a => sortLD md a b) := by
  obtain ⟨te, e1, e2⟩ := he.ex
  refine ⟨tSortL S.F P q i te, fun X cc => by
    have z := pe_sortL (k := S.k) (p := p) (kpos := kpos) (lpos := lpos) (pos := pos) cc.room (gl_of cc hg) (by rw [cc.mg]; exact hm) (by rw [cc.base, cc.mg]; exact TB) (cc.code _ hcode) (q := q) (by rw [cc.ql _ hql]; exact hq) (hdef X.env) (by rw [cc.N]; exact hN) (by rw [cc.sc]; exact hv) hk hco hgen hcell hl1 hl2 (by rw [cc.sc]; exact hfr) d1 d2 d3 hbind (e1 X cc) (hst X.env)
    rw [cc.K] at z; exact z, fun W σ ρ Q k st h => ?_⟩
  refine e2 W σ ρ _ k st (Post.imp (Post.bnd h) fun b W1 l1 k1 h1 v rv => ?_)
  have h2 : Post S W1 σ (Mo.bnd (getV ρ i) (fun a => sortLD md a b) W1.M) (PV S Q) := h1
  by_cases hd : ∃ d, ρ[i]? = some (some d)
  · obtain ⟨d, hd⟩ := hd
    rw [getV_some hd] at h2
    have h3 : Post S W1 σ (sortLD md d b W1.M) (PV S Q) := h2
    clear h2
    unfold sortLD at h3
    cases e3 : intsT d with
    | none => rw [e3] at h3; exact h3.elim
    | some ps =>
      cases e4 : intsL W1.M b with
      | none => rw [e3, e4] at h3; exact h3.elim
      | some ns =>
        rw [e3, e4] at h3
        obtain ⟨hb, h4⟩ := post_condO h3
        obtain ⟨w, hw, rw0⟩ := (st.mono l1).2 i d hd
        unfold intsT at e3
        split at e3
        · rename_i l'
          unfold intsL at e4
          split at e4
          · rename_i l e5
            obtain ⟨a, xs, rfl, sq, r1⟩ := rd_lst k1 rv e5
            obtain ⟨rfl, _⟩ := toIL_run r1 e4
            cases rw0 with
            | @tup t ts _ sqt r2 =>
              obtain ⟨rfl, _⟩ := toIL_run r2 e3
              refine ⟨a, t, ns, ps, rfl, sq, hw, sqt, fun n hn => ?_, (k1.lm (P, q) hP).1, fun H2 lm p0 hp0 => ?_⟩
              · have := List.all_eq_true.mp hb n hn
                rw [Bool.and_eq_true] at this
                exact ⟨of_decide_eq_true this.1, of_decide_eq_true this.2⟩
              · have le := le_lam k1 hP lm
                have ok := k1.lam hP lm
                have r3 : RpA S.K (W1.tab H2) ((sortI ps ns).map V.int) ((sortI ps ns).map .int) := rpa_ints' _
                exact post_new (W := W1.tab H2) ok r3 (Post.mono le h4) p0 hp0
          · cases e4
        · cases e3
  · rw [getV_none fun d q => hd ⟨d, q⟩] at h2
    exact h2.elim
end
end DL
namespace DL
open PySem PySem.Spec PyProof.Rows L2
def unT : DL.D → DL.D
  | .tpn l => .tup l
  | d => d
theorem rp_unT {K : KP} {W : Wd} {v : V} {d : DL.D} (r : Rp K W v d) : Rp K W v (unT d) := by
  cases r with
  | tpn h n r => exact .tup (.inl (.inr ⟨_, h⟩)) r
  | non => exact .non
  | bl b => exact .bl b
  | int i => exact .int i
  | str x => exact .str x
  | tup h r => exact .tup h r
  | lst h f r => exact .lst h f r
  | lstK h r => exact .lstK h r
  | dK h f r => exact .dK h f r
  | dT h f q r => exact .dT h f q r
  | ref h => exact .ref h
  | obj a => exact .obj a
  | ty n => exact .ty n
  | set h => exact .set h
  | seti h => exact .seti h
section
variable {S : SC}
theorem ex_unT {e : Expr} {f : En → Mo DL.D} (he : EX S e f) : EX S e (fun ρ => .bnd (f ρ) fun d => .ret (unT d)) := by
  obtain ⟨te, e1, e2⟩ := he.ex
  refine ⟨te, e1, fun W σ ρ Q k st h => e2 W σ ρ _ k st (Post.imp (Post.bnd h) fun d W1 l1 k1 q v rv => ?_)⟩
  exact Post.ret k1 q v (rp_unT rv)
end
def oTN (its : Array Value) : Obj := { cls := .type "tuple", data := .seq its }
theorem call_tupleN {X : Cx} : CallR X (.type "tuple") (fun xs H Q => ∃ p ys, xs = [.ref p] ∧ SqL X.K H p ys ∧ ∀ l o, o.dict = none → H l = none → Q (.ref l) (upd H l (.frz o (.tup ys)))) := by
  intro pins s σ H xs us Q I r h
  obtain ⟨p, ys, rfl, hq, q⟩ := h
  obtain ⟨u, rfl, rx⟩ := vals1 r
  cases rx
  obtain ⟨its, r', pl, hz⟩ := I.list hq
  have hlen := r'.length
  refine call_tuple_list pl.isList (fun h' kp => ?_) (by simp only [List.size_toArray] <;> omega)
  have I1 : Inv X pins σ H { s with heap := h' } := I.kept (t' := s.toks) kp
  have I2 : Inv X pins σ (upd H h'.objs.size (.frz (oTN its.toArray) (.tup ys))) { s with heap := h'.push (oTN its.toArray) } :=
    I1.laid (t' := s.toks) (fun b o e => Heap.get?_push_of_some _ e) (Nat.le_refl _) (show ObjOk X.prog X.w _ _ _ (.frz (oTN its.toArray) (.tup ys)) from ⟨Heap.get?_push_size _ rfl, hz, its, r', IsTup.new _ _⟩)
  exact ⟨.ref h'.objs.size, _, I2, rfl, q _ (oTN its.toArray) rfl (I1.hok.fresh (Nat.le_refl _))⟩
section
variable {S : SC} {W : Wd} {σ : L2.St}
def tupleN (d : DL.D) : Mo DL.D := fun M => match res M d with
  | .lst l => some (.ok (.tpn l), M)
  | _ => none
theorem cx_tupleN : CXx S (.type "tuple") (arg1 tupleN) := by
  refine ⟨⟨_, fun X c => by have z := call_tupleN (X := X); rw [c.K] at z; exact z, fun W σ vs ds Q k r h => ?_⟩⟩
  obtain ⟨v, d, rfl, rv, h⟩ := arg1_run r h
  unfold tupleN at h
  split at h
  · rename_i l e
    obtain ⟨a, xs, rfl, h1, h2⟩ := rd_lst k rv e
    refine ⟨a, xs, rfl, h1, fun p o ho hp => ?_⟩
    have le := le_lay (K := S.K) (o := .frz o (.tup xs)) k hp
    exact h (W.lay p (.frz o (.tup xs))) le (k.lay hp) rfl _ (.tpn upd_same ho (h2.mono le))
  · exact h.elim
def tyT (x : V) (H : Hp) : Prop := ∃ a o xs, x = .ref a ∧ H a = some (.frz o (.tup xs)) ∧ o.dict = none
theorem tyG_tup {X : Cx} : TyG X "tuple" tyT := by
  intro pins σ H s x v I r h
  obtain ⟨a, o, xs, rfl, h, hd⟩ := h
  cases r
  obtain ⟨h1, _, its, _, ob, e, hc, _⟩ := I.hok a _ h
  rw [h1] at e
  cases e
  exact ⟨⟨o, h1, hc⟩, fun b hb => by cases hb; exact ⟨o, h1, hd⟩⟩
def rTIx (K : PySem.W.Frag) : V → List V → Hp → VK → Prop := fun x xs H Q => ∃ (a : Addr) (ns : List Int) (n : Int), x = .ref a ∧ xs = [.int n] ∧ SqT K H a (ns.map V.int) ∧ n ∈ ns ∧ Q (.int (ns.idxOf n : Nat)) H
theorem vals_intsAre {ns : List Int} {us : List Value} (r : Vals (ns.map V.int) us) : IntsAre us ns := r.ints
theorem mt_tix {X : Cx} : MtR X "tuple.index" (rTIx X.K) := by
  intro pins s σ H x xs v us Q I rx rs h
  obtain ⟨a, ns, n, rfl, rfl, hq, hn, q⟩ := h
  cases rx
  obtain ⟨u, rfl, t, rfl⟩ := vals1 rs
  obtain ⟨its, r, pl, hz⟩ := I.tuple hq
  have pl' : s.heap.IsTuple a its.toArray := pl
  exact SeqAt.tuple_index_ints pl' r.ints hn ⟨.int (ns.idxOf n : Nat), H, I.tok _, ⟨_, rfl⟩, q⟩
def isT (M : Mem) (d : DL.D) : Bool := match d with
  | .tpn _ => true
  | _ => false
def tixD (a : DL.D) : List DL.D → Mo DL.D
  | [.int n] => fun M => match a with
    | .tpn l => match l.mapM toI with
      | some ns => cond (decide (n ∈ ns)) (some (.ok (.int (ns.idxOf n : Nat)), M)) none
      | none => none
    | _ => none
  | _ => .stuck
theorem mx_tindex : MX S "tuple" "index" isT tixD := by
  refine ⟨⟨"tuple.index", tyT, rTIx S.F, PySem.F.plainAttrs_tuple, PySem.F.slot_tuple_index, PySem.F.type_tuple_index, fun X c => ⟨tyG_tup, by have z := mt_tix (X := X); rw [c.K] at z; exact z⟩, fun W x a k r h => ?_, fun W σ x xs a as Q k r rs h => ?_⟩⟩
  · cases a with
    | tpn l => cases r with | tpn h1 n1 r1 => exact ⟨_, _, _, rfl, h1, n1⟩
    | _ => cases h
  · unfold tixD at h
    split at h
    · rename_i n
      cases a with
      | tpn l =>
        simp only at h
        cases e : l.mapM toI with
        | none => rw [e] at h; exact h.elim
        | some ns =>
          rw [e] at h
          obtain ⟨hb, h⟩ := post_condO h
          cases r with
          | tpn h1 n1 r1 =>
            obtain ⟨rfl, _⟩ := toIL_run r1 e
            cases rs with
            | cons r2 r3 =>
              cases r3
              cases r2
              exact ⟨_, ns, n, rfl, rfl, .inl (.inr ⟨_, h1⟩), of_decide_eq_true hb, post_ok k h _ (.int _)⟩
      | _ => exact h.elim
    · exact h.elim
end
end DL
namespace DL
open PySem PySem.Spec PyProof.Rows L2
theorem ext_ll (l : Addr) (items : Array Value) (n : Nat) (b : Addr) (o2 : Obj) (items2 : Array Value) (n2 : Nat) (hc : o2.cls = .type "list") (hd : o2.data = .seq items2 n2) (hc0 : ¬(!items.isEmpty && Builtin.List.listTooLong (items.size + items2.size)) = true) (hc1 : items.size ≤ sizeLine) (hs2 : items.size + items2.size ≤ sizeLine + 1) :
    Meets (Builtin.«list.extend» ⟨[.ref l, .ref b], []⟩) (fun _ R s => s.heap.get? l = some { cls := .type "list", dict := none, data := .seq items n, slots := #[] } ∧ s.heap.get? b = some o2 ∧ R (.ok (.ret Value.none)) { s with heap := s.heap.update l (Obj.mapSeq fun x => x ++ items2), toks := s.toks }) :=
  .of_wp fun prog w A R s h => by
    obtain ⟨oc, od, oda, osl⟩ := o2
    cases hc
    cases hd
    obtain ⟨hp, g, d, tk, os⟩ := s; obtain ⟨hl, hb, h⟩ := h; have f1 := AutoSeq1.idx_int; have f2 := AutoSeq1.sub_tuple_tuple; have f3 := AutoSeq1.sub_list_list; have f4 := AutoSeq1.sub_tuple_list; have f5 := AutoSeq1.sub_list_tuple;
    have hz' : (items ++ items2).size ≤ sizeLine + 1 := by rw [Array.size_append]; exact hs2
    wp_walk using (wpAny_updateSeq hl rfl (hz := hc1) (_hz' := hz')), AutoSeq1.wpAny_loadPart' hl, AutoSeq1.wpAny_loadPart' hb; exact ⟨_, rfl, h⟩
def rExt (K : PySem.W.Frag) : V → List V → Hp → VK → Prop := fun x vs H Q => ∃ l b xs zs, x = .ref l ∧ vs = [.ref b] ∧ H l = some (.lst xs) ∧ SqL K H b zs ∧ xs.length + zs.length ≤ sizeLine ∧ Q .non (upd H l (.lst (xs ++ zs)))
theorem mt_ext {X : Cx} : MtR X "list.extend" (rExt X.K) := by
  intro pins s σ H x vs v us Q I rx rv h
  obtain ⟨l, b, xs, zs, rfl, rfl, hH, hB, hz, q⟩ := h
  cases rx
  obtain ⟨u, rfl, ru⟩ := vals1 rv
  cases ru
  obtain ⟨z, its, n, r, hl, e⟩ := I.lstM hH
  obtain ⟨its2, r2, ⟨o2, n2, e2, hc2, _, hd2⟩, z2⟩ := I.list hB
  have hl2 := r2.length
  have hsz : its.toArray.size + its2.toArray.size ≤ sizeLine := by rw [List.size_toArray, List.size_toArray]; omega
  have hlong : ¬ (!its.toArray.isEmpty && Builtin.List.listTooLong (its.toArray.size + its2.toArray.size)) = true := by
    rw [notLongL hsz, Bool.and_false]
    exact Bool.false_ne_true
  refine call_meets PySem.F.slot_list_extend ⟨_, e, rfl⟩ PySem.F.entry_list_extend (PySem.F.args_list_extend_2 _ _)
    (ext_ll l its.toArray n b o2 its2.toArray n2 hc2 hd2 hlong (by rw [List.size_toArray]; omega) (by omega)) ⟨e, e2, ?_⟩
  refine ⟨.non, _, I.lset (its' := its ++ its2) hH e (by simp) (r.append r2) ?_, rfl, q⟩
  rw [List.length_append]
  omega
section
variable {S : SC}
def extD (a : D) : List D → Mo D
  | [d] => fun M => match cur M a with
    | some (n, l) => match res M d with
      | .lst l2 => cond (decide (l.length + l2.length ≤ sizeLine)) (some (.ok .non, M.set n (.lst (l ++ l2)))) none
      | _ => none
    | none => none
  | _ => .stuck
theorem mx_extend : MX S "list" "extend" isL extD := by
  refine ⟨⟨"list.extend", tyL S.F, rExt S.F, PySem.F.plainAttrs_list, PySem.F.slot_list_extend, PySem.F.type_list_extend, fun X c => ⟨by have z := tyG_list (X := X); rw [c.K] at z; exact z, by have z := mt_ext (X := X); rw [c.K] at z; exact z⟩, fun W x a k r h => isL_ty k r h, fun W σ x xs a as Q k r rs h => ?_⟩⟩
  match as, rs, h with
  | [], _, h => exact h.elim
  | [d], .cons (v := v) rv .nil, h =>
    simp only [extD] at h
    cases e : cur W.M a with
    | none => rw [e] at h; exact h.elim
    | some nl =>
      obtain ⟨n, l⟩ := nl
      rw [e] at h
      obtain ⟨_, hm, p, xs, rfl, hb, hH, rl⟩ := cur_run k r e
      cases e2 : res W.M d with
      | lst l2 =>
        rw [e2] at h
        obtain ⟨q, ys, rfl, s2, r2⟩ := rd_lst k rv e2
        obtain ⟨h1, h2⟩ := post_condO h
        exact ⟨p, q, xs, ys, rfl, rfl, hH, s2, by rw [rl.length, r2.length]; exact of_decide_eq_true h1, put_lst k hb hm (rl.append r2) .non h2⟩
      | _ => rw [e2] at h; exact h.elim
  | _ :: _ :: _, _, h => exact h.elim
def rDpop : V → List V → Hp → VK → Prop := fun x xs H Q => ∃ a kvs k, x = .ref a ∧ H a = some (.dK kvs) ∧ ((∃ v more, xs = kV k :: more ∧ more.length ≤ 1 ∧ valV kvs k = some v ∧ Q v (upd H a (.dK (dropK kvs k)))) ∨ ∃ z, xs = [kV k, z] ∧ valV kvs k = none ∧ Q z H)
theorem mt_dpop {X : Cx} : MtR X "dict.pop" rDpop := by
  intro pins s σ H x xs v us Q I rx rs h
  obtain ⟨a, kvs, k, rfl, hH, h⟩ := h
  cases rx
  rcases h with ⟨y, more, rfl, hm, hv, q⟩ | ⟨z, rfl, hv, q⟩
  · cases rs with
    | @cons _ u _ us' ru rs' =>
      have hm' : us' = [] ∨ ∃ x, us' = [x] := by
        have e := rs'.length
        match us', e with
        | [], _ => exact .inl rfl
        | [x], _ => exact .inr ⟨x, rfl⟩
        | _ :: _ :: _, e => simp at e; omega
      exact d_pop I hH ru hv hm' fun w' s' I' rw' => ⟨y, _, I', rw', q⟩
  · obtain ⟨u, u', rfl, ru, rz⟩ := vals2 rs
    exact d_popD I hH ru hv fun s' I' => ⟨z, H, I', rz, q⟩
theorem put_dk {σ : L2.St} {W : Wd} {Q : VK} {n : Nat} {p : Addr} {l ds : List (D × D)} {kvs : List (Key × V)} {d : D} {v : V} (k : Ok S.K W) (hb : W.β[n]? = some p) (hm : W.M[n]? = some (.dct false l)) (r : RpK S.K W kvs ds) (rv : Rp S.K W v d)
    (h : Post S W σ (some (.ok d, W.M.set n (.dct false ds))) (PV S Q)) : Q v (upd W.H p (.dK kvs)) := by
  have le := le_put (K := S.K) (ho := .dK kvs) (o := .dct false ds) k hb hm (by intro q; cases q)
  exact h (W.put n p (.dK kvs) (.dct false ds)) le (k.put hb hm (by intro q; cases q) ⟨kvs, upd_same, r.mono le⟩) rfl v (rv.mono le)
def curK (M : Mem) (d : D) : Option (Nat × List (D × D)) := match d with
  | .ref n => match M[n]? with
    | some (.dct false l) => some (n, l)
    | _ => none
  | _ => none
theorem curK_run {K : KP} {W : Wd} {x : V} {a : D} {n : Nat} {l : List (D × D)} (k : Ok K W) (r : Rp K W x a) (h : curK W.M a = some (n, l)) : W.M[n]? = some (.dct false l) ∧ ∃ p kvs, x = .ref p ∧ W.β[n]? = some p ∧ W.H p = some (.dK kvs) ∧ RpK K W kvs l := by
  cases a with
  | ref m =>
    cases r with
    | @ref _ p hb =>
      simp only [curK] at h
      split at h
      · rename_i l' e
        cases h
        obtain ⟨xs, h1, h2⟩ := k.ob _ _ _ hb e
        exact ⟨e, p, xs, rfl, hb, h1, h2⟩
      · cases h
  | _ => cases h
def dpopD (a : D) : List D → Mo D
  | [k] => fun M => match curK M a with
    | some (n, l) => match toK k with
      | some q => match findG toK l q with
        | some d => some (.ok d, M.set n (.dct false (dropG toK l q)))
        | none => none
      | none => none
    | none => none
  | [k, d] => fun M => match curK M a with
    | some (n, l) => match toK k with
      | some q => match findG toK l q with
        | some d => some (.ok d, M.set n (.dct false (dropG toK l q)))
        | none => some (.ok d, M)
      | none => none
    | none => none
  | _ => .stuck
theorem mx_dpop : MX S "dict" "pop" isDc dpopD := by
  refine ⟨⟨"dict.pop", tyD S.K, rDpop, PySem.F.plainAttrs_dict, PySem.F.slot_dict_pop, PySem.F.type_dict_pop, fun X c => ⟨tyG_dict, mt_dpop⟩, fun W x a k r h => isD_ty k r h, fun W σ x xs a as Q k r rs h => ?_⟩⟩
  unfold dpopD at h
  split at h
  · cases rs with
    | cons ry rn =>
      cases rn
      split at h
      · rename_i n l e
        obtain ⟨hm, p, kvs, rfl, hb, hH, rl⟩ := curK_run k r e
        split at h
        · rename_i q hq
          obtain ⟨rfl, _⟩ := toK_run ry hq
          split at h
          · rename_i d hd
            obtain ⟨v, hv, rv⟩ := (findG_k (k := q) rl).1 d hd
            exact ⟨p, kvs, q, rfl, hH, .inl ⟨v, [], rfl, by simp, hv, put_dk k hb hm (dropG_k rl) rv h⟩⟩
          · exact h.elim
        · exact h.elim
      · exact h.elim
  · cases rs with
    | cons ry rn =>
      cases rn with
      | cons rz rn =>
        cases rn
        split at h
        · rename_i n l e
          obtain ⟨hm, p, kvs, rfl, hb, hH, rl⟩ := curK_run k r e
          split at h
          · rename_i q hq
            obtain ⟨rfl, _⟩ := toK_run ry hq
            split at h
            · rename_i d hd
              obtain ⟨v, hv, rv⟩ := (findG_k (k := q) rl).1 d hd
              exact ⟨p, kvs, q, rfl, hH, .inl ⟨v, [_], rfl, by simp, hv, put_dk k hb hm (dropG_k rl) rv h⟩⟩
            · rename_i hd
              exact ⟨p, kvs, q, rfl, hH, .inr ⟨_, rfl, (findG_k (k := q) rl).2 hd, post_ok k h _ rz⟩⟩
          · exact h.elim
        · exact h.elim
  · exact (show False from h).elim
end
end DL
namespace DL
open PySem PySem.Spec PyProof.Rows L2
abbrev TP.scL (T : TP) (N : List Str) (sc : Scope) (k : Nat) (Wx : WX) (code : Value) (qual : Str) : SC := { P := T.P, w := T.w, F := T.F, mg := T.mg, base := T.base, N := N, sc := sc, k := k, W := Wx, df := true, fnc := fun _ => true, cs := T.cs, code := some code, ls := T.ls, ql := some (qual ++ ".<locals>.") }
theorem inC_defL {T : TP} {N : List Str} {qual : Str} {scope : Scope} {f : Addr} {cdv : Value} {A : Around} {outer : List PySem.Env} {s : Shared} {H : Hp} {E : L2.XK} {k : Nat} (hr : Room k (A.deeper (envOfC qual scope s.heap.objs.size f cdv))) :
    InC (T.scL N scope k (fun cls d _ H => E cls d H) cdv qual) (cxOf (L2N.CX T.P T.w) T.P T.w T.F T.mg T.base N qual scope f cdv A outer s H E) where
  P := rfl
  w := rfl
  K := rfl
  mg := rfl
  base := rfl
  N := rfl
  sc := rfl
  calm := rfl
  room := hr
  takes := L2N.takes_of rfl rfl rfl rfl
  own := fun _ => passes_of rfl
  stk := fun _ => ⟨rfl, rfl⟩
  fn := fun _ _ => rfl
  code := fun v e => Option.some.inj e
  ql := fun q e => by cases e; rfl
section
variable {T : TP} {x qual : Str} {prm : Arguments} {body : List Stmt} {scope : Scope} {dvs : List V} {kws : List (Str × V)} {f : Addr} {fd : FuncData} {N ps : List Str} {k : Nat} {g : Sn}
theorem fnd_ofL (F : FunD T.F x qual prm body scope dvs kws f fd) (Sc : FnScope N ps scope) (hb : ∀ Wx : WX, BX (T.scL N scope k Wx fd.code qual) body g) : FnD T (k + 1) f fd ps (fnD N g) := by
  refine okXc F Sc (fun vs H Q E h => h.1) fun cdv hcd A outer s H vs Q E hr hsp => ?_
  subst hcd
  obtain ⟨hl, W, ds, ok, rfl, r, post⟩ := hsp
  obtain ⟨t, t1, t2⟩ := (hb fun cls d _ H => E cls d H).ex
  refine ⟨t, t1 _ (inC_defL hr), t2 W _ (startE N ds) _ ok (start_rel r) ?_⟩
  have post : PostC T W (fnR W.M (g (startE N ds) W.M)) Q E := post
  have fin_run : ∀ {M : Mem} {d : D} {W2 : Wd}, PostC T W (fin W.M M d) Q E → Le T.K W W2 → Ok T.K W2 → W2.M = M → ∀ v, Rp T.K W2 v d → Q v W2.H := by
    intro M d W2 hp l k2 hM v rv
    subst hM
    unfold fin at hp
    cases e1 : subst (frF W2.M W.M.length 3) d with
    | none => rw [e1] at hp; exact hp.elim
    | some d' =>
      cases e2 : finM W.M W2.M with
      | none => rw [e1, e2] at hp; exact hp.elim
      | some M' =>
        rw [e1, e2] at hp
        obtain ⟨W3, rfl, h3, l3, k3, ov⟩ := finM_run ok k2 l e2
        have z := hp W3 l3 k3 rfl v (rp_subst (ov 3) rv e1)
        rw [h3] at z
        exact z
  cases e : g (startE N ds) W.M with
  | none => rw [e] at post; exact post.elim
  | some p =>
    obtain ⟨fl, M⟩ := p
    rw [e] at post
    cases fl with
    | nx ρ => exact fun W2 l k2 hM σ st => fin_run (d := .non) post l k2 hM _ .non
    | ret d => exact fun W2 l k2 hM v rv => fin_run post l k2 hM v rv
    | brk ρ => exact post.elim
    | cnt ρ => exact post.elim
    | exc y ρ =>
      intro W2 l k2 hM σ st C hC
      subst hM
      have post : PostC T W ((finM W.M W2.M).map fun M' => (.error y, M')) Q E := post
      cases e2 : finM W.M W2.M with
      | none => rw [e2] at post; exact post.elim
      | some M' =>
        rw [e2] at post
        obtain ⟨W3, rfl, h3, l3, k3, ov⟩ := finM_run ok k2 l e2
        have z := post W3 l3 k3 rfl C hC
        rw [h3] at z
        exact z
theorem fno_ofL (F : FunD T.F x qual prm body scope dvs kws f fd) (Sc : FnScope N ps scope) (hb : ∀ Wx : WX, BX (T.scL N scope k Wx fd.code qual) body g) : FnD T (k + 1) f fd ps (fnO N g) := by
  refine okXc F Sc (fun vs H Q E h => h.1) fun cdv hcd A outer s H vs Q E hr hsp => ?_
  subst hcd
  obtain ⟨hl, W, ds, ok, rfl, r, post⟩ := hsp
  obtain ⟨t, t1, t2⟩ := (hb fun cls d _ H => E cls d H).ex
  refine ⟨t, t1 _ (inC_defL hr), t2 W _ (startE N ds) _ ok (start_rel r) ?_⟩
  have post : PostC T W (fnW (g (startE N ds) W.M)) Q E := post
  cases e : g (startE N ds) W.M with
  | none => rw [e] at post; exact post.elim
  | some p =>
    obtain ⟨fl, M⟩ := p
    rw [e] at post
    cases fl with
    | nx ρ => exact fun W2 l k2 hM σ st => post W2 l k2 hM _ .non
    | ret d => exact fun W2 l k2 hM v rv => post W2 l k2 hM v rv
    | brk ρ => exact post.elim
    | cnt ρ => exact post.elim
    | exc y ρ => exact fun W2 l k2 hM σ st C hC => post W2 l k2 hM C hC
end
def lamOk (sc scope : Scope) (pl on : Str) : Bool := scope.kind == .function && !scope.isCoroutine && !scope.isGenerator && (scope.names.all fun y => !(y.2 == .cell)) && scope.names.lookup on == some .local && scope.names.lookup pl == some .free
  && (scope.names.all fun y => !(y.2 == .free) || sc.names.lookup y.1 == some .cell || sc.names.lookup y.1 == some .free) && !(on == ("__debug__" : Str)) && !(pl == ("__debug__" : Str)) && !(pl == ("__classdict__" : Str))
theorem ex_sortLB {S : SC} (md : Bool) {c P : Addr} {i : Nat} {e : Expr} {q qq pl on : Str} {params : Arguments} {scope : Scope} {lpos kpos p p1 p2 p3 pos : Pos} {fe : En → Mo DL.D} (hg : Gs S "sorted") (hm : S.mg "sorted" = none) (TB : GxR.TabB S.base S.mg c P) (hcode : S.code = some (.ref c)) (hql : S.ql = some qq) (hq : qq ++ "<lambda>" = q) (hP : (P, q) ∈ S.ls)
    (hN : S.N[i]? = some pl) (hv : S.sc.names.lookup pl = some .cell ∨ S.sc.names.lookup pl = some .free) (hB : lamOk S.sc scope pl on = true)
    (hdef : ∀ env : PySem.Env, defaultsOf params env = ([], []))
    (hbind : ∀ (cl : List (Str × Addr)) (pm cv ctv v : Value), bindArgs (PySem.W.kla_fn "<lambda>" q params (.Subscript (.Name pl p1) (.Name on p2) p3) scope cl pm cv ctv) ⟨[v], []⟩ = pure [(on, v)])
    (he : EX S e fe) (hst : ∀ env : PySem.Env, starEach [e] env = (false, eval e env) :: starEach [] env := by intro; rfl) :
    EX S (.Call (.Name "sorted" p) [e] [⟨some "key", .Lambda params (.Subscript (.Name pl p1) (.Name on p2) p3) scope lpos, kpos⟩] pos) (fun ρ => .bnd (fe ρ) fun b => .bnd (getV ρ i) fun a => sortLD md a b) := by
  unfold lamOk at hB
  simp only [Bool.and_eq_true, Bool.not_eq_true', beq_iff_eq] at hB
  obtain ⟨⟨⟨⟨⟨⟨⟨⟨⟨h1, h2⟩, h3⟩, h4⟩, h5⟩, h6⟩, h7⟩, h8⟩, h9⟩, h10⟩ := hB
  refine ex_sortL md hg hm TB hcode hql hq hP hN hv h1 h2 h3 (fun y hy => by simpa using List.all_eq_true.mp h4 y hy) h5 h6 (fun y hy hf => ?_) h8 h9 h10 hdef hbind he hst
  have z := List.all_eq_true.mp h7 y hy
  rw [hf] at z
  simpa using z
end DL
namespace DL
open PySem PySem.Spec PyProof.Rows L2
section
variable {prog : Program} {w : World} {A : Around} {E : Value → Shared → Prop} {s : Shared}
theorem meets_en1 {v : Value} {o : Obj} {C : Heap → Prop} (B : Begins v o C) :
    Meets (Builtin.«enumerate.__new__» ⟨[.type "enumerate", v], []⟩) (fun _ R z => C z.heap ∧
      R (.ok (.ret (.ref (z.heap.push o).objs.size))) { z with heap := (z.heap.push o).push { cls := .type "enumerate", data := .fields #[.none, .bool false, .ref z.heap.objs.size, rawInt 0, .none, .none] } }) := by
  refine .of_wp fun prog w A R z h => ?_
  obtain ⟨hp, g, d, tk, os⟩ := z
  obtain ⟨hC, h⟩ := h
  have hsub := sub_enumerate
  have qb : ∀ {A2 : Around} {E2 : Value → Shared → Prop} {Q2 : Value → Shared → Prop}, Q2 (.ref hp.objs.size) ⟨hp.push o, g, d, tk, os⟩ → wpAny (model prog w) A2 (pyIter v) Q2 E2 ⟨hp, g, d, tk, os⟩ := by
    intro A2 E2 Q2 q
    exact B.iter prog w A2 E2 ⟨hp, g, d, tk, os⟩ Q2 hC q
  wp_walk using qb
  refine wpAny_stack_any fun st => ?_
  refine wpAny_pure ?_
  split
  · rename_i c _ _ _ _ _
    cases (c == Value.type "enumerate") <;> (wp_walk using qb; exact ⟨_, rfl, h⟩)
  · wp_walk using qb; exact ⟨_, rfl, h⟩
theorem call_en1 {v : Value} {o : Obj} {C : Heap → Prop} {Q : Value → Shared → Prop} (B : Begins v o C) (hC : C s.heap)
    (h : ∀ h', IsEnum h' (s.heap.objs.size + 1) s.heap.objs.size 0 .none → h'.get? s.heap.objs.size = some o → (∀ b ob, s.heap.get? b = some ob → h'.get? b = some ob) → Q (.ref (s.heap.objs.size + 1)) { s with heap := h' }) :
    wpAny (model prog w) A (call (.type "enumerate") [v]) Q E s := by
  have hz : (s.heap.push o).objs.size = s.heap.objs.size + 1 := Heap.size_push ..
  have hen : IsEnum ((s.heap.push o).push { cls := .type "enumerate", data := .fields #[.none, .bool false, .ref s.heap.objs.size, rawInt 0, .none, .none] }) (s.heap.objs.size + 1) s.heap.objs.size 0 .none := by
    have q := Heap.get?_push_size (s.heap.push o) (o := { cls := .type "enumerate", data := .fields #[.none, .bool false, .ref s.heap.objs.size, rawInt 0, .none, .none] }) rfl
    rw [hz] at q
    exact q
  refine callType_new F.called_enumerate (by decide) (F.typeCall_enumerate_1 _) (F.newCall_enumerate_1 _) (fun ob => F.args_object_init_2 ob _) F.entry_enumerate_new (meets_en1 B) ⟨hC, ?_⟩
  show _ ∧ _
  rw [hz]
  exact ⟨⟨_, hen, rfl⟩, h _ hen (Heap.get?_push_of_some _ (Heap.get?_push_size _ B.free)) fun b ob q => Heap.get?_push_of_some _ (Heap.get?_push_of_some _ q)⟩
end
/-- the tuple at a, each item in a new pair -/
def IteT (K : PySem.W.Frag) (a : Addr) : It where
  go := fun i H => ∃ (xs : List V) (x : V), SqT K H a xs ∧ xs[i]? = some x
  yld := fun i H v H' => ∃ T x, v = .ref T ∧ H T = none ∧ H' = upd H T (.tup [.int (i : Nat), x]) ∧ ∀ xs, SqT K H a xs → xs[i]? = some x
  stop := fun i H => ∃ xs : List V, SqT K H a xs ∧ xs.length = i
theorem turn_enT {P : Program} {w : World} {K : PySem.W.Frag} {elts : List Expr} {kk : Nat} {tpos : Pos} (a e it : Addr) :
    Turn P w K (.Tuple elts kk tpos) (IteT K a) [e, it] e (fun i h => (∃ old, IsEnum h e it ((i : Nat) : Int) old) ∧ h.IsTupleIter it a i ∧ e ≠ it) := by
  refine ⟨by simp, fun i h st b hb => ?_, fun i h h' st k => ?_, ?_, ?_, fun A i s Q E st h => ?_⟩
  · obtain ⟨⟨old, he⟩, ⟨o, ho, hc, hd⟩, _⟩ := st
    simp only [List.mem_cons, List.not_mem_nil, or_false] at hb
    rcases hb with z | z <;> rw [z]
    · exact ⟨_, he, fun v q => nomatch q⟩
    · exact ⟨o, ho, fun v q => by rw [hd] at q; cases q⟩
  · obtain ⟨⟨old, he⟩, hi, hne⟩ := st
    exact ⟨⟨old, k e (by simp) _ he⟩, hi.at fun o q => k it (by simp) o q, hne⟩
  · intro X hP hw hK hc i pins s σ H E I hf st hg
    subst hP hw hK
    obtain ⟨⟨old, he⟩, hit, hne⟩ := st
    obtain ⟨xs, x, hq, hx⟩ := hg
    obtain ⟨its, rv, p, _⟩ := I.tuple hq
    obtain ⟨u, hu, ru⟩ := rv.get hx
    have hel : e < s.heap.objs.size := Heap.lt_size he
    have hil : it < s.heap.objs.size := by obtain ⟨_, q, _⟩ := hit; exact Heap.lt_size q
    have hai : a ≠ it := by
      rintro rfl
      obtain ⟨o1, q1, c1, _⟩ := hit
      obtain ⟨o2, q2, c2, _⟩ := p
      rw [q1] at q2; cases q2
      rw [c1] at c2
      exact absurd c2 (by decide)
    have hae : a ≠ e := by
      rintro rfl
      obtain ⟨o2, q2, c2, _⟩ := p
      rw [he] at q2; cases q2
      exact absurd (show Value.type "enumerate" = Value.type "tuple" from c2) (by decide)
    have hlt : i < its.toArray.size := by
      have := (List.getElem?_eq_some_iff.mp hu).1
      simpa using this
    refine wpAny_pyNext_enum_itemD (Draws.tuple (A := X.A.in1) (I.ok.hd hc) it a hai its.toArray) he ⟨hit, p⟩ hlt hne (by simp [Ne.symm hae, hne]) fun x' h' tk hx' ho st' hT hsz hk => ?_
    have exu : x' = u := by
      have q : its.toArray[i]? = some u := by simpa using hu
      rw [q] at hx'; cases hx'; rfl
    subst exu
    refine ⟨_, rfl, wpAny_letOwnedTupleGo_enum (s := { s with heap := h', toks := tk + 1 }) ho fun h2 he2 sb => ?_⟩
    have hT2 : h2.get? s.heap.objs.size = some { cls := .type "tuple", data := .seq #[.int i tk, x'] } := (sb.2 _ (Nat.ne_of_gt hel)).trans hT
    have new : ObjOk X.prog X.w (upd H s.heap.objs.size (.tup [.int (i : Nat), x])) h2 s.heap.objs.size (.tup [.int (i : Nat), x]) :=
      ⟨by show 2 ≤ sizeLine; decide, [.int i tk, x'], .cons ⟨_, rfl⟩ (.cons ru .nil), ⟨_, hT2, rfl, _, rfl⟩⟩
    have I1 : Inv X pins σ (upd H s.heap.objs.size (.tup [.int (i : Nat), x])) { s with heap := h2, toks := tk + 1 } := by
      refine I.turnedNew (ch := [e, it]) (fun b ob hb q => ?_) hf (Nat.le_refl _) new
      have b1 : b ≠ e := fun z => hb (by simp [z])
      have b2 : b ≠ it := fun z => hb (by simp [z])
      exact (sb.2 b b1).trans (hk b ob b1 b2 q)
    refine ⟨.ref s.heap.objs.size, _, I1, rfl, ⟨_, x, rfl, I.hok.fresh (Nat.le_refl _), rfl, fun ys hy => by rw [I.tuple_inj hy hq]; exact hx⟩, ⟨⟨x', ?_⟩, ?_, hne⟩, fun b hb => ?_⟩
    · rw [show ((i + 1 : Nat) : Int) = (i : Int) + 1 by omega]
      exact he2
    · exact st'.1.at fun o q => (sb.2 it (Ne.symm hne)).trans q
    · have hb' : b < s.heap.objs.size := by
        simp only [List.mem_cons, List.not_mem_nil, or_false] at hb
        rcases hb with z | z <;> rw [z] <;> assumption
      rw [upd_ne (Nat.ne_of_lt hb')]
      exact (hf b hb).1
  · intro X hP hw hK hc i pins s σ H E I hf st hg
    subst hP hw hK
    obtain ⟨⟨old, he⟩, hit, hne⟩ := st
    obtain ⟨xs, hq, hx⟩ := hg
    obtain ⟨its, rv, p, _⟩ := I.tuple hq
    have hl := rv.length
    have hai : a ≠ it := by
      rintro rfl
      obtain ⟨o1, q1, c1, _⟩ := hit
      obtain ⟨o2, q2, c2, _⟩ := p
      rw [q1] at q2; cases q2
      rw [c1] at c2
      exact absurd c2 (by decide)
    have hi : i = its.toArray.size := by simp; omega
    obtain ⟨f0, f1, f2, f3, f4, f5⟩ := hf it (by simp)
    subst hi
    refine wpAny_pyNext_enum_endD (Draws.tuple (A := X.A.in1) (I.ok.hd hc) it a hai its.toArray) he ⟨hit, p⟩ fun h' eb => ⟨rfl, ?_⟩
    exact I.turned (t' := s.toks) (fun b o hb q => eb b o hb q) f0 f1 f3 f4 f5
  · obtain ⟨⟨_, he⟩, _⟩ := st
    exact wpAny_pyIter_enum he h
def iEnA (K : PySem.W.Frag) (ta : TA) : TI := fun σ H R => ta σ H fun vs H1 => ∃ a xs, vs = [.ref a] ∧ ((SqL K H1 a xs ∧ R (Ite K a) H1) ∨ (SqT K H1 a xs ∧ R (IteT K a) H1))
theorem pi_enA {X : Cx} {e : Expr} {ta : TA} {p pos tpos : Pos} {elts : List Expr} {kk : Nat} (hg : Gl X "enumerate") (hm : X.mg "enumerate" = none) (ha : PA X [e] ta) (hs : starEach [e] X.env = [(false, eval e X.env)] := by rfl) :
    PI X (.Tuple elts kk tpos) (.Call (.Name "enumerate" p) [e] [] pos) (iEnA X.K ta) := by
  refine ⟨fun pins s σ H R I h => ?_⟩
  refine Call_ (ld_blt I hg hm boot_enumerate (PyProof.Rows.callWith_type1 (thn (ha.run pos pins s σ H _ I h) fun us s1 q => ?_) hs rfl))
  obtain ⟨vs, H1, I1, r1, a, xs, rfl, q⟩ := q
  obtain ⟨z, rfl, r⟩ := r1.one
  cases r
  have hfp : ∀ b ∈ [s1.heap.objs.size + 1, s1.heap.objs.size], FpOk X pins H1 b := fun b hb => by
    simp only [List.mem_cons, List.not_mem_nil, or_false] at hb
    have hle : s1.heap.objs.size ≤ b := by omega
    exact I1.fpOk hle (I1.hok.fresh hle)
  rcases q with ⟨hq, q⟩ | ⟨hq, q⟩
  · obtain ⟨its, rv, p', _⟩ := I1.list hq
    refine call_enumerate_list p'.isList fun h' he hit _ hk => ?_
    refine wpAny_pyIter_enum he ?_
    exact ⟨_, [s1.heap.objs.size + 1, s1.heap.objs.size], _, _, H1, rfl, I1.kept (t' := s1.toks) hk, turn_enum a _ _, ⟨⟨.none, he⟩, hit, Nat.succ_ne_self _⟩, hfp, q⟩
  · obtain ⟨its, rv, p', _⟩ := I1.tuple hq
    refine call_en1 (begins_tuple a its.toArray) p' fun h' he hit hk => ?_
    refine wpAny_pyIter_enum he ?_
    exact ⟨_, [s1.heap.objs.size + 1, s1.heap.objs.size], _, _, H1, rfl, I1.kept (t' := s1.toks) hk, turn_enT a _ _, ⟨⟨.none, he⟩, ⟨_, hit, rfl, rfl⟩, Nat.succ_ne_self _⟩, hfp, q⟩
section
variable {S : SC}
def enL (l : List DL.D) : List DL.D := (List.range l.length).zip l |>.map fun p => .tup [.int (p.1 : Nat), p.2]
theorem enL_len (l : List DL.D) : (enL l).length = l.length := by simp [enL]
theorem enL_get {l : List DL.D} {i : Nat} {d : DL.D} (h : l[i]? = some d) : (enL l)[i]? = some (.tup [.int (i : Nat), d]) := by
  have hi : i < l.length := (List.getElem?_eq_some_iff.mp h).1
  have h1 : (List.range l.length)[i]? = some i := by rw [List.getElem?_range hi]
  unfold enL
  rw [List.getElem?_map, zip_get h1 h]
  rfl
def enumD : List DL.D → Mo Itd' := fun l M => match l with
  | [.tup a] => some (.ok ⟨enL a, none⟩, M)
  | [.lst a] => some (.ok ⟨enL a, none⟩, M)
  | _ => none
theorem itok_enT {W : Wd} {a : Addr} {xs : List V} {l : List DL.D} (h : SqT S.F W.H a xs) (r : RpA S.K W xs l) (z : SzH S.K W.H) : ItOk S W (IteT S.F a) ⟨enL l, none⟩ := by
  have hl := r.length
  refine ⟨by show (enL l).length ≤ _; rw [enL_len, ← hl]; exact z.t a xs h, fun W1 l1 k1 _ => ⟨fun i hi => ?_, xs, l1.t a xs h, by rw [enL_len]; exact hl⟩⟩
  rw [enL_len] at hi
  obtain ⟨x, hx⟩ : ∃ y, xs[i]? = some y := ⟨xs[i], List.getElem?_eq_getElem (by omega)⟩
  refine ⟨⟨xs, x, l1.t a xs h, hx⟩, fun v H' hv => ?_⟩
  obtain ⟨T, x', rfl, hT, rfl, hx'⟩ := hv
  obtain ⟨d, hd, rd⟩ := r.get' (hx' xs (l1.t a xs h))
  obtain ⟨W2, q1, q2, q3, q4, q5⟩ := lay_pair k1 hT (.int (i : Nat)) (rd.mono0 l1.zero)
  exact ⟨W2, q1, q2, q3, q4, _, enL_get hd, q5⟩
theorem itok_enL {W : Wd} {a : Addr} {xs : List V} {l : List DL.D} (h : FzL S.K W a xs) (r : RpA S.K W xs l) (z : SzH S.K W.H) : ItOk S W (Ite S.F a) ⟨enL l, none⟩ := by
  have hl := r.length
  refine ⟨by show (enL l).length ≤ _; rw [enL_len, ← hl]; exact z.l a xs h.sq, fun W1 l1 k1 _ => ⟨fun i hi => ?_, xs, (h.z l1).sq, by rw [enL_len]; omega⟩⟩
  rw [enL_len] at hi
  obtain ⟨x, hx⟩ : ∃ y, xs[i]? = some y := ⟨xs[i], List.getElem?_eq_getElem (by omega)⟩
  refine ⟨⟨xs, x, (h.z l1).sq, hx⟩, fun v H' hv => ?_⟩
  obtain ⟨T, x', rfl, hT, rfl, hx'⟩ := hv
  obtain ⟨d, hd, rd⟩ := r.get' (hx' xs (h.z l1).sq)
  obtain ⟨W2, q1, q2, q3, q4, q5⟩ := lay_pair k1 hT (.int (i : Nat)) (rd.mono0 l1.zero)
  exact ⟨W2, q1, q2, q3, q4, _, enL_get hd, q5⟩
theorem ix_enum {e : Expr} {fa : En → Mo (List DL.D)} {p pos tpos : Pos} {elts : List Expr} {kk : Nat} (hg : Gs S "enumerate") (hm : S.mg "enumerate" = none) (ha : AX S [e] fa) (hs : ∀ env : PySem.Env, starEach [e] env = [(false, eval e env)] := by intro; rfl) :
    IX S (.Tuple elts kk tpos) (.Call (.Name "enumerate" p) [e] [] pos) (fun ρ => .bnd (fa ρ) enumD) := by
  obtain ⟨ta, a1, a2⟩ := ha.ex
  refine ix_mk (fun X c => by have z := pi_enA (p := p) (pos := pos) (elts := elts) (kk := kk) (tpos := tpos) (gl_of c hg) (by rw [c.mg]; exact hm) (a1 X c) (hs X.env); rw [c.K] at z; exact z) fun W σ ρ R k st h => ?_
  refine a2 W σ ρ _ k st (Post.imp (Post.bnd h) fun ds W1 l1 k1 q vs rvs => ?_)
  cases rvs with
  | nil => exact (show False from q).elim
  | cons r t => cases t with
    | cons _ _ => exact (show False from (by cases r <;> exact q)).elim
    | nil =>
      cases r with
      | tup hs r => exact ⟨_, _, rfl, .inr ⟨hs, Post.ret k1 q _ fun z => itok_enT hs r z⟩⟩
      | lst hs f r => exact ⟨_, _, rfl, .inl ⟨.inl hs, Post.ret k1 q _ fun z => itok_enL (.inl ⟨hs, f⟩) r z⟩⟩
      | lstK hs r => exact ⟨_, _, rfl, .inl ⟨.inr hs, Post.ret k1 q _ fun z => itok_enL (.inr hs) r z⟩⟩
      | _ => exact (show False from q).elim
end
end DL
namespace DL
open PySem PySem.Spec PyProof.Rows L2
section
variable {prog : Program} {w : World} {A : Around} {E : Value → Shared → Prop} {s : Shared}
abbrev oS (led : Bool) : Obj := { cls := .type "set", dict := none, data := .set #[] 0 (.fresh 0 0 led) }
abbrev fM (ns : List Int) (k : Nat) : List Int := firstMet (fun i => ns.getD i 0) k
theorem set_of_tuple {l : Addr} {its : Array Value} {ns : List Int} {Q : Value → Shared → Prop} (hh : A.handled = none) (hl : s.heap.IsTuple l its) (hi : IntsAre its.toList ns) (hb : its.size + 1 < scanBound)
    (h : ∀ (h2 : Heap) (tk : Nat), h2.SetOf (intKind prog w) s.heap.objs.size (fun q => (fM ns its.size).any (· == q)) (fM ns its.size).length → (∀ b ob, b < s.heap.objs.size → s.heap.get? b = some ob → h2.get? b = some ob) → Q (.ref s.heap.objs.size) { s with heap := h2, toks := tk }) :
    wpAny (model prog w) A (call (.type "set") [.ref l]) Q E s := by
  obtain ⟨c, tl, km1⟩ := F.called_set.mro
  have km2 := F.called_set.made; have km3 := F.called_set.sub
  refine wpAny_call (codeAny_of_tree ?_)
  show wpAny _ _ (callAny (.type "set") _) _ _ _
  refine wpAny_pure ⟨Code.quiet_builtin _ (by decide +kernel), ?_⟩
  refine codeAny_builtin F.entry_type_call ?_
  rw [Around.under_plain (weight_type_call_type "set" [.ref l] []) rfl]
  have k1 := F.called_set.notType; have k2 := F.called_set.canCreate; have k3 := F.typeCall_set_1 (.ref l)
  repeat (any_goals (first | assumption | wp_step))
  refine codeAny_mono (code_set_new_1 (.ref l) (E := E) (Q₁ := fun ob z => ∃ led : Bool, ob = .ref s.heap.objs.size ∧ z = { s with heap := s.heap.push (oS led) }) fun led => ⟨led, rfl, rfl⟩) fun r z hr => ?_
  cases r with
  | error e => exact hr
  | ok fl =>
    cases fl with
    | ret ob =>
      obtain ⟨led, rfl, rfl⟩ := hr
      have gS : (s.heap.push (oS led)).get? s.heap.objs.size = some (oS led) := Heap.get?_push_size _ rfl
      have gT : Shared.TypeIs { s with heap := s.heap.push (oS led) } (.ref s.heap.objs.size) "set" := ⟨_, gS, rfl⟩
      have k4 := F.called_set.init.lookup; have k5 := F.called_set.init.bind (.ref s.heap.objs.size)
      repeat (any_goals (first | assumption | wp_step))
      refine codeAny_mono (codeAny_call_builtin (R := wants (fun r z => r = .none ∧ ∃ h2 tk, z = { s with heap := h2, toks := tk } ∧ h2.SetOf (intKind prog w) s.heap.objs.size (fun q => (fM ns its.size).any (· == q)) (fM ns its.size).length ∧
        (∀ b ob, b < s.heap.objs.size → s.heap.get? b = some ob → h2.get? b = some ob)) E) F.called_set.init.plain F.entry_set_init (check_set_init_1 gT ?_)) fun r2 z2 hr2 => ?_
      · obtain ⟨⟨c1, d1, dt, sl⟩, g0, c2, nl, d2⟩ := hl
        replace c2 : c1 = .type "tuple" := c2
        replace d2 : dt = .seq its nl := d2
        subst c2 d2
        have g1 : (s.heap.push (oS led)).get? l = some { cls := .type "tuple", dict := d1, data := .seq its nl, slots := sl } := Heap.get?_push_of_some _ g0
        have k6 := F.sub_tuple_set; have k7 := F.sub_tuple_frozenset
        have k8 : (Value.type "tuple" == Value.type "dict") = false := by decide
        have g2 : (s.heap.push (oS led)).IsTuple l its := ⟨_, g1, rfl, nl, rfl⟩
        unfold Builtin.«set.__init__» noKeywords Builtin.Frozenset.updateFrom
        generalize hPI : pyIter = PI
        wp_walk
        subst hPI
        refine wpAny_pyIter_tuple g2 (wpAny_bind (wpAny_runValue ?_))
        have lt1 : l < s.heap.objs.size := Heap.lt_size g0
        have hd3 : A.in1.in1.in1.handled = none := by simp [hh]
        have ne1 : l ≠ (s.heap.push (oS led)).objs.size := by rw [Heap.size_push]; exact Nat.ne_of_lt (Nat.lt_succ_of_lt lt1)
        have ne2 : s.heap.objs.size ∉ [(s.heap.push (oS led)).objs.size, l] := by
          rw [Heap.size_push]
          simp only [List.mem_cons, List.not_mem_nil, or_false, not_or]
          exact ⟨Nat.ne_of_lt (Nat.lt_succ_self _), Nat.ne_of_gt lt1⟩
        have vl : ∀ (i : Nat) (v : Value), its[i]? = some v → ∃ t, v = .int ((fun i => ns.getD i 0) i) t := fun i v hv => IntsAre.int_at hi i v ((Array.getElem?_toList ..).trans hv)
        refine codeAny_set_update_loopS ((Walks.tuple hd3 _ l ne1 its).toS) s.heap.objs.size ne2 (fun i => ns.getD i 0) vl hb (its.size - 0) 0 _ (by omega) (Nat.zero_le _) ⟨⟨_, Heap.get?_push_size _ rfl, rfl, rfl⟩, g2.push _⟩ ?_ fun z3 hm hS => ?_
        · have g3 : ((s.heap.push (oS led)).push { cls := .type "tuple_iterator", data := .fields #[.ref l, .int 0 0] }).get? s.heap.objs.size = some (oS led) := Heap.get?_push_of_some _ gS
          exact SetOf_congr ((setObjOf_fresh (knd := intKind prog w) led).setOf g3 (by unfold scanBound; omega)) (fun _ => rfl) rfl
        · obtain ⟨h3, g3, d3, t3, o3⟩ := z3
          obtain rfl : g3 = s.gens := hm.gens
          obtain rfl : d3 = s.drawn := hm.drawn
          obtain rfl : o3 = s.os := hm.os
          show wpAny _ _ _ _ _ _
          refine wpAny_pure ?_
          show wpAny _ _ (ret Value.none) _ _ _
          refine wpAny_pure ⟨rfl, h3, t3, rfl, hS, fun b ob b1 e => ?_⟩
          refine hm.heap b ob ?_ (Heap.get?_push_of_some _ (Heap.get?_push_of_some _ e))
          rw [Heap.size_push]
          simp only [List.mem_cons, List.not_mem_nil, or_false, not_or]
          exact ⟨Nat.ne_of_lt b1, Nat.ne_of_lt (Nat.lt_succ_of_lt b1)⟩
      · cases r2 with
        | error e => exact hr2
        | ok fl2 =>
          cases fl2 with
          | ret r =>
            obtain ⟨rfl, h3, t3, rfl, hS, hk⟩ := hr2
            repeat (any_goals (first | assumption | wp_step))
            exact h _ _ hS hk
          | _ => exact hr2.elim
    | _ => exact hr.elim
end
def tLenS (K : PySem.W.Frag) (ta : TE) : TE := fun σ H Q => ta σ H fun x H1 => ∃ (l : Addr) (ns : List Int), x = .ref l ∧ (SqL K H1 l (ns.map V.int) ∨ SqT K H1 l (ns.map V.int)) ∧ ns.length ≤ 4000 ∧ Q (.int (fM ns ns.length).length) H1
theorem pe_lenS {X : Cx} {a : Expr} {ta : TE} {p p2 q pos : Pos} (hg : Gl X "len") (hm : X.mg "len" = none) (hg2 : Gl X "set") (hm2 : X.mg "set" = none) (ha : PE X a ta) (hc : X.calm = true)
    (na : starEach [a] X.env = (false, eval a X.env) :: starEach [] X.env := by rfl) : PE X (.Call (.Name "len" p) [.Call (.Name "set" p2) [a] [] q] [] pos) (tLenS X.K ta) := by
  refine ⟨fun pins s σ H Q I h => ?_⟩
  refine Call_ (ld_blt I hg hm boot_len (callWith_builtin1 (args_cons ?_ rfl) rfl rfl))
  refine Call_ (ld_blt I hg2 hm2 boot_set (callWith_type1 (args_cons (thn (ha.run pins s σ H _ I h) fun v s1 ⟨x, H1, I1, r1, q1⟩ => args_nil ?_) na) na rfl))
  obtain ⟨l, ns, rfl, hq, hl, q1⟩ := q1
  cases r1
  have fin : ∀ (its : List Value), Vals (ns.map V.int) its → ∀ (h2 : Heap) (tk : Nat), h2.SetOf (intKind X.prog X.w) s1.heap.objs.size (fun z => (fM ns its.toArray.size).any (· == z)) (fM ns its.toArray.size).length →
      (∀ b ob, b < s1.heap.objs.size → s1.heap.get? b = some ob → h2.get? b = some ob) →
      wpAny (model X.prog X.w) X.A (spliced (backTo pos (starEach [] X.env))) (fun vs z => wpAny (model X.prog X.w) X.A (call (.builtin "len") (Value.ref s1.heap.objs.size :: vs)) (EP X pins σ Q) X.xe z) X.xe { s1 with heap := h2, toks := tk } := by
    intro its r h2 tk hS hk
    have sz : its.toArray.size = ns.length := by rw [List.size_toArray, ← r.length, List.length_map]
    rw [sz] at hS
    obtain ⟨o, es, ep, t, ho, hex, hd, _, _, _, hf, hn⟩ := hS
    have I2 : Inv X pins σ H1 { s1 with heap := h2, toks := tk } := I1.kept fun b ob e => hk b ob (Heap.lt_size e) e
    have hle : (fM ns ns.length).length ≤ 4000 := Nat.le_trans (firstMet_length_le _ _) hl
    refine args_nil (call_len_set ho hex hd hf (by rw [hn]; omega) ⟨.int (fM ns ns.length).length, H1, I2.tok _, ⟨_, by rw [hn]⟩, q1⟩)
  rcases hq with hq | hq
  · obtain ⟨its, r, pl, hz⟩ := I1.list hq
    have sz : its.toArray.size = ns.length := by rw [List.size_toArray, ← r.length, List.length_map]
    exact call_set_list (I1.ok.hd hc) pl.isList (by simpa using RZ.intsAre_vals r) (by rw [sz]; unfold scanBound; omega) fun h2 tk hS hk => fin its r h2 tk hS hk
  · obtain ⟨its, r, pl, hz⟩ := I1.tuple hq
    have sz : its.toArray.size = ns.length := by rw [List.size_toArray, ← r.length, List.length_map]
    exact set_of_tuple (I1.ok.hd hc) pl (by simpa using RZ.intsAre_vals r) (by rw [sz]; unfold scanBound; omega) fun h2 tk hS hk => fin its r h2 tk hS hk
section
variable {S : SC}
def lenSD (d : DL.D) : Mo DL.D := fun M => match d with
  | .tup l => match l.mapM toI with
    | some ns => cond (decide (ns.length ≤ 4000)) (some (.ok (.int (fM ns ns.length).length), M)) none
    | none => none
  | .lst l => match l.mapM toI with
    | some ns => cond (decide (ns.length ≤ 4000)) (some (.ok (.int (fM ns ns.length).length), M)) none
    | none => none
  | _ => none
theorem ex_lenS {a : Expr} {f : En → Mo DL.D} {p p2 q pos : Pos} (hg : Gs S "len") (hm : S.mg "len" = none) (hg2 : Gs S "set") (hm2 : S.mg "set" = none) (he : EX S a f)
    (na : ∀ env : PySem.Env, starEach [a] env = (false, eval a env) :: starEach [] env := by intro; rfl) : EX S (.Call (.Name "len" p) [.Call (.Name "set" p2) [a] [] q] [] pos) (fun ρ => .bnd (f ρ) lenSD) := by
  obtain ⟨te, e1, e2⟩ := he.ex
  refine ⟨tLenS S.F te, fun X c => by have z := pe_lenS (p := p) (p2 := p2) (q := q) (pos := pos) (gl_of c hg) (by rw [c.mg]; exact hm) (gl_of c hg2) (by rw [c.mg]; exact hm2) (e1 X c) c.calm (na X.env); rw [c.K] at z; exact z, fun W σ ρ Q k st h => ?_⟩
  refine e2 W σ ρ _ k st (Post.imp (Post.bnd h) fun d W1 l1 k1 q v rv => ?_)
  have q : Post S W1 σ (lenSD d W1.M) (PV S Q) := q
  unfold lenSD at q
  cases rv with
  | tup hs r =>
    simp only at q
    split at q
    · rename_i ns e
      obtain ⟨b, q⟩ := post_condO q
      obtain ⟨rfl, _⟩ := toIL_run r e
      exact ⟨_, ns, rfl, .inr hs, of_decide_eq_true b, post_ok k1 q _ (.int _)⟩
    · exact q.elim
  | lst hs f r =>
    simp only at q
    split at q
    · rename_i ns e
      obtain ⟨b, q⟩ := post_condO q
      obtain ⟨rfl, _⟩ := toIL_run r e
      exact ⟨_, ns, rfl, .inl (.inl hs), of_decide_eq_true b, post_ok k1 q _ (.int _)⟩
    · exact q.elim
  | lstK hs r =>
    simp only at q
    split at q
    · rename_i ns e
      obtain ⟨b, q⟩ := post_condO q
      obtain ⟨rfl, _⟩ := toIL_run r e
      exact ⟨_, ns, rfl, .inl (.inr hs), of_decide_eq_true b, post_ok k1 q _ (.int _)⟩
    · exact q.elim
  | _ => exact (show False from q).elim
def rgL (a b : Int) : List DL.D := (List.range (b - a).toNat).map fun i => .int (a + (i : Nat))
theorem rpa_rg {K : KP} {W : Wd} (a b : Int) : RpA K W (rgV a b) (rgL a b) := by
  unfold rgV rgL
  induction List.range (b - a).toNat with
  | nil => exact .nil
  | cons i r ih => exact .cons (.int _) ih
def lrgD (md : Bool) (a b : DL.D) : Mo DL.D := fun M => match a, b with
  | .int i, .int j => cond (rngB i && rngB j) (finD md (rgL i j) M) none
  | _, _ => none
def trgD (a b : DL.D) : Mo DL.D := fun M => match a, b with
  | .int i, .int j => cond (rngB i && rngB j) (some (.ok (.tup (rgL i j)), M)) none
  | _, _ => none
theorem rgok {i j : Int} (h1 : rngB i = true) (h2 : rngB j = true) : RgOk i j := by
  have := rngB_le h1
  have := rngB_le h2
  exact ⟨by omega, by omega, by omega, by omega, by omega⟩
theorem lrg_run {W : Wd} {σ : L2.St} {md : Bool} {x y : V} {a b : DL.D} {Q : VK} (k : Ok S.K W) (rx : Rp S.K W x a) (ry : Rp S.K W y b) (h : Post S W σ (lrgD md a b W.M) (PV S Q)) :
    ∃ i j, x = .int i ∧ y = .int j ∧ RgOk i j ∧ ∀ q, W.H q = none → Q (.ref q) (upd W.H q (.lst (rgV i j))) := by
  unfold lrgD at h
  split at h
  · rename_i i j
    obtain ⟨b, h⟩ := post_condO h
    rw [Bool.and_eq_true] at b
    exact ⟨i, j, rp_int rx, rp_int ry, rgok b.1 b.2, post_new k (rpa_rg i j) h⟩
  · exact h.elim
theorem trg_run {W : Wd} {σ : L2.St} {x y : V} {a b : DL.D} {Q : VK} (k : Ok S.K W) (rx : Rp S.K W x a) (ry : Rp S.K W y b) (h : Post S W σ (trgD a b W.M) (PV S Q)) :
    ∃ i j, x = .int i ∧ y = .int j ∧ RgOk i j ∧ ∀ q, W.H q = none → Q (.ref q) (upd W.H q (.tup (rgV i j))) := by
  unfold trgD at h
  split at h
  · rename_i i j
    obtain ⟨b, h⟩ := post_condO h
    rw [Bool.and_eq_true] at b
    exact ⟨i, j, rp_int rx, rp_int ry, rgok b.1 b.2, post_layT k (rpa_rg i j) h⟩
  · exact h.elim
section
variable {a b : Expr} {fa fb : En → Mo DL.D} {p p2 pos pos2 : Pos}
theorem ex_lrg1 (md : Bool) (hg : Gs S "list") (hm : S.mg "list" = none) (hg2 : Gs S "range") (hm2 : S.mg "range" = none) (ha : EX S a fa) (na : ∀ env : PySem.Env, starEach [a] env = (false, eval a env) :: starEach [] env := by intro; rfl) (nb : ∀ env : PySem.Env, starEach [.Call (.Name "range" p2) [a] [] pos2] env = (false, eval (.Call (.Name "range" p2) [a] [] pos2) env) :: starEach [] env := by intro; rfl) :
    EX S (.Call (.Name "list" p) [.Call (.Name "range" p2) [a] [] pos2] [] pos) (fun ρ => .bnd (fa ρ) fun y => lrgD md (.int 0) y) := by
  obtain ⟨te, e1, e2⟩ := ha.ex
  refine ⟨tLstRg (tRg1 te), fun X c => pe_listRg c.calm (gl_of c hg) (by rw [c.mg]; exact hm) (prg_1 (gl_of c hg2) (by rw [c.mg]; exact hm2) (e1 X c) (na X.env)) (nb X.env), fun W σ ρ Q k st h => ?_⟩
  refine e2 W σ ρ _ k st (Post.imp (Post.bnd h) fun d W1 l1 k1 q v rv => ?_)
  obtain ⟨i, j, hi, rfl, ok, q⟩ := lrg_run k1 (.int 0) rv q
  cases hi
  exact ⟨j, rfl, ok, q⟩
theorem ex_lrg2 (md : Bool) (hg : Gs S "list") (hm : S.mg "list" = none) (hg2 : Gs S "range") (hm2 : S.mg "range" = none) (ha : EX S a fa) (hb : EX S b fb) (na : ∀ env : PySem.Env, starEach [a, b] env = (false, eval a env) :: starEach [b] env := by intro; rfl) (na2 : ∀ env : PySem.Env, starEach [b] env = (false, eval b env) :: starEach [] env := by intro; rfl) (hp : ∀ env : PySem.Env, (backTo pos2 (starEach [b] env)).any (·.1) = false := by intro; rfl)
    (nb : ∀ env : PySem.Env, starEach [.Call (.Name "range" p2) [a, b] [] pos2] env = (false, eval (.Call (.Name "range" p2) [a, b] [] pos2) env) :: starEach [] env := by intro; rfl) :
    EX S (.Call (.Name "list" p) [.Call (.Name "range" p2) [a, b] [] pos2] [] pos) (fun ρ => .bnd (fa ρ) fun x => .bnd (fb ρ) fun y => lrgD md x y) := by
  obtain ⟨te, e1, e2⟩ := ha.ex
  obtain ⟨te2, f1, f2⟩ := hb.ex
  refine ⟨tLstRg (tRg2 te te2), fun X c => pe_listRg c.calm (gl_of c hg) (by rw [c.mg]; exact hm) (prg_2 (gl_of c hg2) (by rw [c.mg]; exact hm2) (e1 X c) (f1 X c) (na X.env) (na2 X.env) (hp X.env)) (nb X.env), fun W σ ρ Q k st h => ?_⟩
  refine e2 W σ ρ _ k st (Post.imp (Post.bnd h) fun d W1 l1 k1 q v rv => ?_)
  refine f2 W1 σ ρ _ k1 (st.mono l1) (Post.imp (Post.bnd q) fun e W2 l2 k2 q u ru => ?_)
  obtain ⟨i, j, rfl, rfl, ok, q⟩ := lrg_run k2 (rv.mono l2) ru q
  exact ⟨i, j, rfl, rfl, ok, q⟩
theorem ex_trg1 (hg : Gs S "tuple") (hm : S.mg "tuple" = none) (hg2 : Gs S "range") (hm2 : S.mg "range" = none) (ha : EX S a fa) (na : ∀ env : PySem.Env, starEach [a] env = (false, eval a env) :: starEach [] env := by intro; rfl) (nb : ∀ env : PySem.Env, starEach [.Call (.Name "range" p2) [a] [] pos2] env = (false, eval (.Call (.Name "range" p2) [a] [] pos2) env) :: starEach [] env := by intro; rfl) :
    EX S (.Call (.Name "tuple" p) [.Call (.Name "range" p2) [a] [] pos2] [] pos) (fun ρ => .bnd (fa ρ) fun y => trgD (.int 0) y) := by
  obtain ⟨te, e1, e2⟩ := ha.ex
  refine ⟨tTupRg (tRg1 te), fun X c => pe_tupRg c.calm (gl_of c hg) (by rw [c.mg]; exact hm) (prg_1 (gl_of c hg2) (by rw [c.mg]; exact hm2) (e1 X c) (na X.env)) (nb X.env), fun W σ ρ Q k st h => ?_⟩
  refine e2 W σ ρ _ k st (Post.imp (Post.bnd h) fun d W1 l1 k1 q v rv => ?_)
  obtain ⟨i, j, hi, rfl, ok, q⟩ := trg_run k1 (.int 0) rv q
  cases hi
  exact ⟨j, rfl, ok, q⟩
end
end
end DL
namespace DL
open PySem PySem.Spec PyProof.Rows L2
abbrev oT (dd : Option Addr) (its : Array Value) (n : Nat) (sl : Array (Option Value)) : Obj := { cls := .type "tuple", dict := dd, data := .seq its n, slots := sl }
theorem tmul_same (l : Addr) (its : Array Value) (n : Nat) (dd : Option Addr) (sl : Array (Option Value)) (x : Int) (u : Tok) (c0 : (decide (x < -(2 ^ 63)) || decide (x ≥ 2 ^ 63)) = false) (c1 : (its.isEmpty || x == 1) = true) :
    Meets (Builtin.«tuple.__mul__» ⟨[.ref l, .int x u], []⟩) (fun _ R s => s.heap.get? l = some (oT dd its n sl) ∧ R (.ok (.ret (.ref l))) s) := by
  refine .of_wp fun prog w A R s h => ?_
  obtain ⟨hp, g, d, tk, os⟩ := s
  obtain ⟨hl, h⟩ := h
  have f1 := AutoSeq1.idx_int
  have q0 : ((decide (x < -(2 ^ 63)) || decide (x ≥ 2 ^ 63)) = true) = False := by rw [c0]; simp
  wp_walk using wpAny_loadPart' hl
  refine wpAny_ite_false (decide_eq_false (by rw [q0]; exact id)) ?_
  wp_walk using wpAny_loadPart' hl
  exact ⟨_, rfl, h⟩
theorem tmul_none (l : Addr) (its : Array Value) (n : Nat) (dd : Option Addr) (sl : Array (Option Value)) (x : Int) (u : Tok) (c0 : (decide (x < -(2 ^ 63)) || decide (x ≥ 2 ^ 63)) = false) (c1 : (its.isEmpty || x == 1) = false) (c2 : (decide (x ≤ 0) || its.isEmpty) = true) :
    Meets (Builtin.«tuple.__mul__» ⟨[.ref l, .int x u], []⟩) (fun _ R s => s.heap.get? l = some (oT dd its n sl) ∧ R (.ok (.ret (.ref s.heap.objs.size))) { s with heap := s.heap.push { cls := .type "tuple", data := .seq #[] } }) := by
  refine .of_wp fun prog w A R s h => ?_
  obtain ⟨hp, g, d, tk, os⟩ := s
  obtain ⟨hl, h⟩ := h
  have f1 := AutoSeq1.idx_int
  have q0 : ((decide (x < -(2 ^ 63)) || decide (x ≥ 2 ^ 63)) = true) = False := by rw [c0]; simp
  have q1 : ((its.isEmpty || x == 1) = true) = False := by rw [c1]; simp
  wp_walk using wpAny_loadPart' hl
  refine wpAny_ite_false (decide_eq_false (by rw [q0]; exact id)) ?_
  wp_walk using wpAny_loadPart' hl
  exact ⟨_, rfl, h⟩
def rRepS (K : PySem.W.Frag) : R2 := fun x y H Q => ∃ l k xs, x = .ref l ∧ y = .int k ∧ SqT K H l xs ∧ -(2 ^ 63) ≤ k ∧ k < 2 ^ 63 ∧ (((xs = [] ∨ k = 1) ∧ Q (.ref l) H) ∨ (xs ≠ [] ∧ k ≤ 0 ∧ ∀ p, H p = none → Q (.ref p) (upd H p (.tup []))))
theorem op_repS {X : Cx} : OpR X (binaryOp .Mult) (rRepS X.K) := by
  intro pins s σ H x y v u Q I rx ry h
  obtain ⟨l, k, xs, rfl, rfl, hT, h1, h2, q⟩ := h
  cases rx
  obtain ⟨t, rfl⟩ := ry
  obtain ⟨its, r, ⟨⟨cls, dd, data, sl⟩, ho, hc, n, hd⟩, hs⟩ := I.tuple hT
  replace hc : cls = .type "tuple" := hc
  replace hd : data = .seq its.toArray n := hd
  subst hc hd
  have c0 : (decide (k < -(2 ^ 63)) || decide (k ≥ 2 ^ 63)) = false := by
    rw [decide_eq_false (by omega), decide_eq_false (by omega)]; rfl
  have tyT : s.TypeIs (.ref l) "tuple" := ⟨_, ho, rfl⟩
  refine wpAny_binaryOp_repeat_ref (T := "tuple") (U := "int") (by decide) tyT (fun s' => typeIs_int s' k t) noFill_tuple_mul F.fills_int_mul F.slot_int_rmul repeat_tuple F.slot_int_index.lookup ?_
  refine call_meets F.slot_int_rmul (typeIs_int s k t) F.entry_int_rmul (F.args_int_rmul_2 _ _) (int_rmul_tuple k t l its.toArray n dd sl) ⟨ho, rfl, tyT, ?_⟩
  have hle : its.length = xs.length := r.length.symm
  rcases q with ⟨h3, q⟩ | ⟨h3, h4, q⟩
  · refine call_meets F.slot_tuple_mul tyT F.entry_tuple_mul (F.args_tuple_mul_2 _ _) (tmul_same l its.toArray n dd sl k t c0 ?_) ⟨ho, ?_⟩
    · rcases h3 with rfl | rfl
      · have : its = [] := List.eq_nil_of_length_eq_zero (by simpa using hle)
        subst this; rfl
      · simp
    · exact ⟨.ref l, H, I, rfl, q⟩
  · have hi : its.toArray.isEmpty = false := by
      cases its with
      | nil => exact absurd (List.eq_nil_of_length_eq_zero (by simpa using hle.symm)) h3
      | cons a b => rfl
    refine call_meets F.slot_tuple_mul tyT F.entry_tuple_mul (F.args_tuple_mul_2 _ _) (tmul_none l its.toArray n dd sl k t c0 ?_ ?_) ⟨ho, ?_⟩
    · rw [hi, Bool.false_or]; exact beq_eq_false_iff_ne.mpr (by omega)
    · rw [decide_eq_true h4]; rfl
    · refine ⟨.ref s.heap.objs.size, _, I.laid (t' := s.toks) (o := .tup []) (fun b ob q => Heap.get?_push_of_some _ q) (Nat.le_refl _) ?_, rfl, q _ (I.hok.fresh (Nat.le_refl _))⟩
      exact ⟨Nat.zero_le _, [], .nil, IsTup.new _ _⟩
section
variable {S : SC}
def repL {α : Type} (l : List α) (k : Int) : List α := (List.replicate k.toNat l).flatten
theorem rpa_rep {K : KP} {W : Wd} {xs : List V} {l : List DL.D} (r : RpA K W xs l) : ∀ n : Nat, RpA K W (List.replicate n xs).flatten (List.replicate n l).flatten
  | 0 => .nil
  | n + 1 => by
    rw [List.replicate_succ, List.replicate_succ, List.flatten_cons, List.flatten_cons]
    exact r.append (rpa_rep r n)
/-- a product of a tuple with an int -/
def repD (md : Bool) (a b : DL.D) : Mo DL.D := fun M => match a, b with
  | .tup l, .int k => cond (decide (-1000 ≤ k) && decide (k ≤ 1000) && decide (l.length ≤ 1000)) (some (.ok (.tup (repL l k)), M)) none
  | .lst l, .int k => cond (decide (-1000 ≤ k) && decide (k ≤ 1000) && decide (l.length ≤ 1000)) (finD md (repL l k) M) none
  | _, _ => none
theorem rep_big {k n : Nat} (h1 : k ≤ 1000) (h2 : n ≤ 1000) : n * k ≤ sizeLine := by
  have := Nat.mul_le_mul h2 h1
  rw [sizeLine_eq]; omega
abbrev oL (sl : Array (Option Value)) (its : Array Value) (n : Nat) : Obj := { cls := .type "list", dict := none, data := .seq its n, slots := sl }
theorem irm_list (a : Int) (t : Tok) (l : Addr) (its : Array Value) (n : Nat) (sl : Array (Option Value)) : Meets (Builtin.«int.__rmul__» ⟨[.int a t, .ref l], []⟩) (fun _ R s => s.heap.get? l = some (oL sl its n) ∧ R (.ok (.ret Value.notImplemented)) s) := by
  refine .of_wp fun prog w A R s h => ?_
  obtain ⟨hp, g, d, tk, os⟩ := s
  obtain ⟨hl, h⟩ := h
  wp_walk using wpAny_loadPart' hl
  exact ⟨_, rfl, h⟩
theorem lmul_W (l : Addr) (its : Array Value) (n : Nat) (sl : Array (Option Value)) (x : Int) (u : Tok) (q0 : ¬(!Builtin.List.listFitsIndex x) = true) (q1 : ¬its.size * x.toNat > (2 ^ 63 - 1) / 8) (q2 : ¬Builtin.List.listTooLong (its.size * x.toNat) = true)
    (q3 : (List.foldl (fun x1 x2 => x1 ++ x2) #[] (List.replicate (if its.isEmpty = true then 0 else x.toNat) its)).size ≤ sizeLine) :
    Meets (Builtin.«list.__mul__» ⟨[.ref l, .int x u], []⟩) (fun _ R s => s.heap.get? l = some (oL sl its n) ∧ R (.ok (.ret (.ref s.heap.objs.size))) { s with heap := s.heap.push { cls := .type "list", data := .seq (List.foldl (fun x1 x2 => x1 ++ x2) #[] (List.replicate (if its.isEmpty = true then 0 else x.toNat) its)) } }) := by
  refine .of_wp fun prog w A R s h => ?_
  obtain ⟨hp, g, d, tk, os⟩ := s
  obtain ⟨hl, h⟩ := h
  wp_walk using wpAny_loadPart' hl
  refine wpAny_ite_false (decide_eq_false (Nat.not_lt.mpr q3)) ?_
  wp_walk using wpAny_loadPart' hl
  exact ⟨_, rfl, h⟩
def rRepL (K : PySem.W.Frag) : R2 := fun x y H Q => ∃ l k xs, x = .ref l ∧ y = .int k ∧ SqL K H l xs ∧ -1000 ≤ k ∧ k ≤ 1000 ∧ xs.length ≤ 1000 ∧ ∀ p, H p = none → Q (.ref p) (upd H p (.lst (List.replicate k.toNat xs).flatten))
theorem op_repL {X : Cx} : OpR X (binaryOp .Mult) (rRepL X.K) := by
  intro pins s σ H x y v u Q I rx ry h
  obtain ⟨l, k, xs, rfl, rfl, hH, h1, h2, h3, q⟩ := h
  cases rx
  obtain ⟨t, rfl⟩ := ry
  obtain ⟨its, r, ⟨⟨c1, d1, dt, sl⟩, n, e, c2, c3, c4⟩, z⟩ := I.list hH
  replace c2 : c1 = .type "list" := c2
  replace c3 : d1 = none := c3
  replace c4 : dt = .seq its.toArray n := c4
  subst c2 c3 c4
  have hl : its.toArray.size = xs.length := by rw [List.size_toArray]; exact r.length.symm
  have hbig := rep_big (k := k.toNat) (n := xs.length) (by omega) h3
  have hfit : ¬ (!Builtin.List.listFitsIndex k) = true := by rw [fitsIndex_both (by omega) (by omega)]; simp
  have hcap : ¬ its.toArray.size * k.toNat > (2 ^ 63 - 1) / 8 := by
    rw [sizeLine_eq] at hbig
    rw [hl]; omega
  have hlong : ¬ Builtin.List.listTooLong (its.toArray.size * k.toNat) = true := by rw [hl, notLongL hbig]; simp
  have tyL : s.TypeIs (.ref l) "list" := ⟨_, e, rfl⟩
  refine wpAny_binaryOp_repeat_ref (T := "list") (U := "int") (by decide) tyL (fun s' => typeIs_int s' k t) noFill_list_mul F.fills_int_mul F.slot_int_rmul repeat_list F.slot_int_index.lookup ?_
  refine call_meets F.slot_int_rmul (typeIs_int s k t) F.entry_int_rmul (F.args_int_rmul_2 _ _) (irm_list k t l its.toArray n sl) ⟨e, rfl, tyL, ?_⟩
  have hnew : List.foldl (fun x1 x2 => x1 ++ x2) #[] (List.replicate (if its.toArray.isEmpty = true then 0 else k.toNat) its.toArray) = (List.replicate k.toNat its).flatten.toArray := by
    rw [size_rep]
    cases its with
    | nil => simp
    | cons a b => rw [if_neg (by simp)]
  have hsz : (List.replicate k.toNat its).flatten.length ≤ sizeLine := by
    rw [PyProof.Rows.lm_len_rep_flat, Nat.mul_comm]
    rw [List.size_toArray] at hl
    rw [hl]; exact hbig
  refine call_meets F.slot_list_mul tyL F.entry_list_mul (F.args_list_mul_2 _ _) (lmul_W l its.toArray n sl k t hfit hcap hlong (by rw [hnew, List.size_toArray]; exact hsz)) ⟨e, ?_⟩
  rw [hnew]
  refine ⟨.ref _, _, I.lnew (t' := s.toks) (r.rep k.toNat) ?_, rfl, q _ I.fresh⟩
  rw [PyProof.Rows.lm_len_rep_flat, Nat.mul_comm]
  exact hbig
def rRepA (K : PySem.W.Frag) : R2 := fun x y H Q => rRepS K x y H Q ∨ rRepT K x y H Q ∨ rRepL K x y H Q
theorem ox_rep (md : Bool) : OX S (binaryOp .Mult) (repD md) := by
  refine ⟨⟨rRepA S.F, fun X c => by have z := (op_repS (X := X)).or (op_repT.or op_repL); rw [c.K] at z; exact z, fun W σ x y a b Q k rx ry h => ?_⟩⟩
  unfold repD at h
  split at h
  · rename_i l i
    obtain ⟨hb, h⟩ := post_condO h
    simp only [Bool.and_eq_true, decide_eq_true_eq] at hb
    obtain ⟨⟨b1, b2⟩, b3⟩ := hb
    cases rp_int ry
    cases rx with
    | tup hs r =>
      have hlen := r.length
      rename_i a0 xs
      by_cases e1 : xs = []
      · subst e1
        cases r
        refine .inl ⟨_, _, _, rfl, rfl, hs, by omega, by omega, .inl ⟨.inl rfl, ?_⟩⟩
        have e : repL ([] : List DL.D) i = [] := by simp [repL]
        rw [e] at h
        exact post_ok k h _ (.tup hs .nil)
      · by_cases e2 : i = 1
        · subst e2
          refine .inl ⟨_, _, _, rfl, rfl, hs, by omega, by omega, .inl ⟨.inr rfl, ?_⟩⟩
          have e : repL l 1 = l := by simp [repL]
          rw [e] at h
          exact post_ok k h _ (.tup hs r)
        · by_cases e3 : i ≤ 0
          · refine .inl ⟨_, _, _, rfl, rfl, hs, by omega, by omega, .inr ⟨e1, e3, ?_⟩⟩
            have e : repL l i = [] := by unfold repL; rw [Int.toNat_of_nonpos e3]; rfl
            rw [e] at h
            exact post_layT k .nil h
          · exact .inr (.inl ⟨_, _, _, rfl, rfl, hs, e1, by omega, b2, by omega, post_layT k (rpa_rep r _) h⟩)
  · rename_i l i
    obtain ⟨hb, h⟩ := post_condO h
    simp only [Bool.and_eq_true, decide_eq_true_eq] at hb
    obtain ⟨⟨b1, b2⟩, b3⟩ := hb
    cases rp_int ry
    cases rx with
    | lst hs f r =>
      have hlen := r.length
      exact .inr (.inr ⟨_, _, _, rfl, rfl, .inl hs, b1, b2, by omega, post_new k (rpa_rep r _) h⟩)
    | lstK hs r =>
      have hlen := r.length
      exact .inr (.inr ⟨_, _, _, rfl, rfl, .inr hs, b1, b2, by omega, post_new k (rpa_rep r _) h⟩)
  · exact h.elim
end
end DL
namespace DL
open PySem PySem.Spec PyProof.Rows L2
/-- the items are pairs, their keys tuples -/
inductive PrR (F : PySem.W.Frag) (H : Hp) : List V → List (List Key × Addr × V) → Prop
  | nil : PrR F H [] []
  | cons {p b : Addr} {k : List Key} {v : V} {xs : List V} {ts : List (List Key × Addr × V)} : SqT F H p [.ref b, v] → SqT F H b (k.map kV) → PrR F H xs ts → PrR F H (.ref p :: xs) ((k, b, v) :: ts)
inductive EsR : List (List Key × Addr × V) → TE3 → Prop
  | nil : EsR [] []
  | cons {k : List Key} {b : Addr} {v : V} {u : Value} {ts : List (List Key × Addr × V)} {es : TE3} : RelV v u → EsR ts es → EsR ((k, b, v) :: ts) ((k, b, u) :: es)
theorem EsR.len : ∀ {ts : List (List Key × Addr × V)} {es : TE3}, EsR ts es → es.length = ts.length
  | _, _, .nil => rfl
  | _, _, .cons _ t => by simp [EsR.len t]
section
variable {X : Cx} {pins : List (Addr × Obj)} {s : Shared} {σ : L2.St} {H : Hp}
theorem prs_at (I : Inv X pins σ H s) : ∀ {xs : List V} {ts : List (List Key × Addr × V)} {its : List Value}, PrR X.K H xs ts → Vals xs its →
    ∃ es : TE3, EsR ts es ∧ (∀ e ∈ es, (tupleKind (mixKind X.prog X.w)).is s.heap e.1 e.2.1) ∧ es.length = its.length ∧ ∃ Ts : Nat → Addr, ∀ (j : Nat) (e : List Key × Addr × Value), es[j]? = some e → its[j]? = some (.ref (Ts j)) ∧ PairAt s.heap (Ts j) (.ref e.2.1) e.2.2
  | _, _, _, .nil, .nil => ⟨[], .nil, by simp, rfl, fun _ => 0, by simp⟩
  | _, _, _, .cons (p := p) (b := b) (k := k) (v := v) h1 h2 t, .cons r rs => by
    obtain ⟨es, e1, e2, e3, Ts, e4⟩ := prs_at I t rs
    cases r
    obtain ⟨ps, rp, pt, _⟩ := I.tuple h1
    cases rp with
    | cons ra rp => cases rp with
      | cons rv rp =>
        cases rp
        cases ra
        rename_i u
        refine ⟨(k, b, u) :: es, .cons rv e1, fun e he => ?_, by simp [e3], fun j => match j with | 0 => p | j + 1 => Ts j, fun j e he => ?_⟩
        · rcases List.mem_cons.mp he with rfl | he
          · exact key_sq I h2
          · exact e2 e he
        · cases j with
          | zero => cases he; exact ⟨rfl, .inl pt⟩
          | succ j => exact e4 j e (by simpa using he)
theorem call_dictT (hc : X.calm = true) (hu : X.A.units + 2 < cLine) : CallR X (.type "dict") (fun vs H Q => ∃ (a : Addr) (xs : List V) (ts : List (List Key × Addr × V)), vs = [.ref a] ∧ SqL X.K H a xs ∧ PrR X.K H xs ts ∧
    ∀ p es, H p = none → EsR ts es → Q (.ref p) (upd H p (TD (XK X) p (storedAllH [] es)))) := by
  intro pins s σ H vs us Q I r q
  obtain ⟨a, xs, ts, rfl, hq, hp, q⟩ := q
  obtain ⟨u, rfl, rx⟩ := r.one
  cases rx
  obtain ⟨its, rv, ⟨o, n, ho, hcl, hd, hdat⟩, hz⟩ := I.list hq
  obtain ⟨es, e1, e2, e3, Ts, e4⟩ := prs_at I hp rv
  have hsz : es.length ≤ sizeLine := by rw [e3, ← rv.length]; exact hz
  have P := PairArg.list (prog := X.prog) (w := X.w) a its.toArray Ts (es.map fun e => (Value.ref e.2.1, e.2.2))
  have hPI : PairItems s.heap its.toArray Ts (es.map fun e => (Value.ref e.2.1, e.2.2)) := by
    refine ⟨by simp [e3], fun j k v hj => ?_⟩
    rw [List.getElem?_map] at hj
    cases he : es[j]? with
    | none => rw [he] at hj; cases hj
    | some e =>
      rw [he] at hj
      cases hj
      obtain ⟨z1, z2⟩ := e4 j e he
      exact ⟨by simpa using z1, z2⟩
  refine call_dict_pairsH (knd := tupleKind (mixKind X.prog X.w)) (ps := es) P (I.ok.hd hc) (by show X.A.units + 1 + 1 < cLine; omega) ⟨⟨o, n, ho, hcl, hd, hdat⟩, hPI⟩ ⟨by simp, fun i key v hr => ?_⟩ (fun h' hk x hx => ?_) (by simpa using hsz) fun h' tk hd' hk => ?_
  · have hr : (es.map fun e => (Value.ref e.2.1, e.2.2))[i]? = some (key, v) := hr
    rw [List.getElem?_map] at hr
    cases he : es[i]? with
    | none => rw [he] at hr; cases hr
    | some e =>
      rw [he] at hr
      cases hr
      exact ⟨e.1, e.2.1, rfl, rfl⟩
  · obtain ⟨ob, items, m, h1, h2, h3, h4⟩ := e2 x hx
    exact ⟨ob, items, m, hk _ _ (Nat.ne_of_lt (Heap.lt_size h1)) (by simp) h1, h2, h3, h4⟩
  · have hm : (s.heap.objs.size == sysModules) = false := beq_eq_false_iff_ne.mpr (Nat.ne_of_gt I.big)
    obtain ⟨ob, en, ep, g1, g2, g3, g4, _, g5⟩ := hd'
    have hlen : (storedAllH [] es).length ≤ sizeLine := by
      have := storedAllH_length es ([] : TE3)
      simp at this
      omega
    exact ⟨.ref s.heap.objs.size, _, I.laid (t' := tk) (o := TD (XK X) s.heap.objs.size (storedAllH [] es)) (fun b ob q => hk b ob (by simp) q) (Nat.le_refl _) (td_new ⟨hlen, hm, ob, en, ep, g1, g2, g3, g4, g5⟩), rfl, q _ es (I.hok.fresh (Nat.le_refl _)) e1⟩
end
section
variable {S : SC} {K : KP} {W : Wd}
def dprF (t : Bool) : List (DL.D × DL.D) → List DL.D → Option (List (DL.D × DL.D))
  | acc, [] => some acc
  | acc, d :: r => match d with
    | .tup [k, v] => (putB t acc k v).bind fun a => dprF t a r
    | _ => none
theorem rpa2 {xs : List V} {a b : DL.D} (h : RpA K W xs [a, b]) : ∃ x y, xs = [x, y] ∧ Rp K W x a ∧ Rp K W y b := by
  cases h with
  | cons r t => cases t with
    | cons r2 t => cases t; exact ⟨_, _, rfl, r, r2⟩
theorem dpr_k : ∀ {xs : List V} {l : List DL.D} {acc l' : List (DL.D × DL.D)} {kacc : List (Key × V)}, RpA K W xs l → RpK K W kacc acc → dprF false acc l = some l' →
    ∃ (ps : List Addr) (kvs : List (Key × V)), xs = ps.map V.ref ∧ Paired (fun p kv => SqT K.K W.H p [kV kv.1, kv.2]) ps kvs ∧ RpK K W (mergeK kacc kvs) l'
  | _, _, acc, l', kacc, .nil, ra, h => by cases h; exact ⟨[], [], rfl, .nil, ra⟩
  | _, _, acc, l', kacc, .cons (d := d) r t, ra, h => by
    unfold dprF at h
    split at h
    · rename_i k v
      cases r with
      | tup h1 h2 =>
        obtain ⟨x, y, rfl, rx, ry⟩ := rpa2 h2
        unfold putB at h
        simp only at h
        cases e : toK k with
        | none => rw [e] at h; cases h
        | some q =>
          rw [e] at h
          simp only [Option.map_some, Option.bind_some] at h
          obtain ⟨rfl, rfl⟩ := toK_run rx e
          obtain ⟨ps, kvs, e1, e2, e3⟩ := dpr_k t (putG_k ra ry) h
          exact ⟨_ :: ps, (q, y) :: kvs, by rw [e1]; rfl, .cons h1 e2, e3⟩
    · cases h
theorem dpr_t : ∀ {xs : List V} {l : List DL.D} {acc l' : List (DL.D × DL.D)}, RpA K W xs l → dprF true acc l = some l' →
    ∃ ts, PrR K.K W.H xs ts ∧ ∀ (eacc : TE3) (kacc : List (List Key × V)) (es : TE3), KS K.K W.H eacc kacc → RpT K W kacc acc → EsR ts es → ∃ kvs', KS K.K W.H (storedAllH eacc es) kvs' ∧ RpT K W kvs' l'
  | _, _, acc, l', .nil, h => by
    cases h
    exact ⟨[], .nil, fun eacc kacc es h1 h2 h3 => by cases h3; exact ⟨kacc, h1, h2⟩⟩
  | _, _, acc, l', .cons (d := d) r t, h => by
    unfold dprF at h
    split at h
    · rename_i k v
      cases r with
      | tup h1 h2 =>
        obtain ⟨x, y, rfl, rx, ry⟩ := rpa2 h2
        unfold putB at h
        simp only at h
        cases e : toKT k with
        | none => rw [e] at h; cases h
        | some q =>
          rw [e] at h
          simp only [Option.map_some, Option.bind_some] at h
          obtain ⟨rfl, b, rfl, hb⟩ := toKT_run rx e
          obtain ⟨ts, e1, e2⟩ := dpr_t t h
          refine ⟨(q, b, y) :: ts, .cons h1 hb e1, fun eacc kacc es g1 g2 g3 => ?_⟩
          cases g3 with
          | cons ru g3 =>
            rename_i u es2
            obtain ⟨kv2, g4, g5⟩ := putG_t g1 g2 hb ru ry
            exact e2 (storedH eacc q b u) kv2 es2 g4 g5 g3
    · cases h
def dprD (md t : Bool) (d : DL.D) : Mo DL.D := fun M => match d with
  | .lst l => match dprF t [] l with
    | some l' => finDO md (.dct t l') (.dct t l') M
    | none => none
  | _ => none
theorem cx_dictP (md t : Bool) : CXx S (.type "dict") (arg1 (dprD md t)) := by
  cases t with
  | false =>
    refine ⟨⟨_, fun X c => by have z := call_dictP (X := X) c.calm; rw [c.K] at z; exact z, fun W σ vs ds Q k r h => ?_⟩⟩
    obtain ⟨v, d, rfl, rv, h⟩ := arg1_run r h
    have h : Post S W σ (dprD md false d W.M) (PV S Q) := h
    unfold dprD at h
    split at h
    · rename_i l _
      split at h
      · rename_i l' e
        have key : ∀ {a : Addr} {xs : List V}, SqL S.F W.H a xs → RpA S.K W xs l → ∃ (a' : Addr) (ps : List Addr) (kvs : List (Key × V)), [V.ref a] = [V.ref a'] ∧ SqL S.F W.H a' (ps.map V.ref) ∧ Paired (fun p kv => SqT S.F W.H p [kV kv.1, kv.2]) ps kvs ∧ ∀ p, W.H p = none → Q (.ref p) (upd W.H p (.dK (mergeK [] kvs))) := by
          intro a xs hs ra
          obtain ⟨ps, kvs, rfl, e2, e3⟩ := dpr_k ra .nil e
          refine ⟨a, ps, kvs, rfl, hs, e2, post_newO (ho := fun _ => .dK (mergeK [] kvs)) k h (fun W' p le g f => .dK (.inl g) f (e3.mono le)) fun W' p le g => ⟨mergeK [] kvs, g, e3.mono le⟩⟩
        cases rv with
        | lst hs f ra => exact key (.inl hs) ra
        | lstK hs ra => exact key (.inr hs) ra
      · exact h.elim
    · exact h.elim
  | true =>
    refine ⟨⟨_, fun X c => by have z := call_dictT (X := X) c.calm (by have := hu_of' c; omega); unfold XK at z; rw [c.P, c.w, c.K] at z; exact z, fun W σ vs ds Q k r h => ?_⟩⟩
    obtain ⟨v, d, rfl, rv, h⟩ := arg1_run r h
    have h : Post S W σ (dprD md true d W.M) (PV S Q) := h
    unfold dprD at h
    split at h
    · rename_i l _
      split at h
      · rename_i l' e
        have key : ∀ {a : Addr} {xs : List V}, SqL S.F W.H a xs → RpA S.K W xs l → ∃ (a' : Addr) (xs' : List V) (ts : List (List Key × Addr × V)), [V.ref a] = [V.ref a'] ∧ SqL S.F W.H a' xs' ∧ PrR S.F W.H xs' ts ∧ ∀ p es, W.H p = none → EsR ts es → Q (.ref p) (upd W.H p (TD S.K p (storedAllH [] es))) := by
          intro a xs hs ra
          obtain ⟨ts, e2, e3⟩ := dpr_t ra e
          refine ⟨a, xs, ts, rfl, hs, e2, fun p es hp he => ?_⟩
          obtain ⟨kvs', g1, g2⟩ := e3 [] [] es .nil .nil he
          exact post_newO (ho := fun p => TD S.K p (storedAllH [] es)) k h (fun W' p le g f => .dT (.inl g) f (g1.mono le.t) (g2.mono le)) (fun W' p le g => ⟨storedAllH [] es, kvs', g, g1.mono le.t, g2.mono le⟩) p hp
        cases rv with
        | lst hs f ra => exact key (.inl hs) ra
        | lstK hs ra => exact key (.inr hs) ra
      · exact h.elim
    · exact h.elim
end
end DL
namespace DL
open PySem PySem.Spec PyProof.Rows L2
section
variable {S : SC}
theorem sx_par3 (i j l : Nat) {x y z : Str} {a b c : Expr} {fa : En → Mo (List DL.D)} {px py pz pt pos : Pos} {kt k2 : Nat} {pt2 : Pos} (hN : S.N.Nodup) (ha : AX S [a, b, c] fa)
    (hw : ∀ X, InC S X → swappedStores [.Tuple [.Name x px, .Name y py, .Name z pz] kt pt] (.Tuple [a, b, c] k2 pt2) X.env = pure (some [x, y, z]))
    (hi : S.N[i]? = some x := by rfl) (hj : S.N[j]? = some y := by rfl) (hl : S.N[l]? = some z := by rfl) (hij : i ≠ j := by decide) (hil : i ≠ l := by decide) (hjl : j ≠ l := by decide)
    (hx : S.sc.names.lookup x = some .local := by rfl) (hy : S.sc.names.lookup y = some .local := by rfl) (hz : S.sc.names.lookup z = some .local := by rfl)
    (hs : ∀ env : PySem.Env, swapsWithSole [.Tuple [.Name x px, .Name y py, .Name z pz] kt pt] (.Tuple [a, b, c] k2 pt2) pos.line env = pure false := by intro; rfl) :
    SX S (.Assign [.Tuple [.Name x px, .Name y py, .Name z pz] kt pt] (.Tuple [a, b, c] k2 pt2) pos) (fun ρ => sE (fa ρ) ρ (par3 i j l ρ)) := by
  obtain ⟨ta, a1, a2⟩ := ha.ex
  refine ⟨tPar3 i j l ta, fun X c => ps_par3 c.calm (by rw [c.N]; exact hN) (by rw [c.N]; exact hi) (by rw [c.N]; exact hj) (by rw [c.N]; exact hl) hij hil hjl (by rw [c.sc]; exact hx) (by rw [c.sc]; exact hy) (by rw [c.sc]; exact hz) (a1 X c) (hw X c) (hs X.env), fun W σ ρ D k st h => ?_⟩
  refine a2 W σ ρ _ k st (Post.imp (PostS.sE st h) fun ds W1 l1 k1 q vs rvs => ?_)
  match ds, rvs, q with
  | [a, b, c], .cons (v := va) ra (.cons (v := vb) rb (.cons (v := vc) rc .nil)), q =>
    exact ⟨va, vb, vc, rfl, PostS.at k1 q _ ((((st.mono l1).set ra i).set rb j).set rc l)⟩
  | [], .nil, q => exact q.elim
  | [a], .cons _ .nil, q => exact q.elim
  | [a, b], .cons _ (.cons _ .nil), q => exact q.elim
  | a :: b :: c :: d :: r, _, q => exact q.elim
end
end DL
namespace DL
def NR (M : Mem) : Prop := ∀ o ∈ M, norefO o = true
theorem norefL_ints (xs : List Int) : norefL (xs.map .int) = true := by
  rw [norefL_all]; simp [noref]
theorem NR.set {M : Mem} (h : NR M) (n : Nat) {o : O} (ho : norefO o = true) : NR (M.set n o) := fun p hp => by
  rcases List.mem_or_eq_of_mem_set hp with h1 | h1
  · exact h p h1
  · rw [h1]; exact ho
theorem set_self {α : Type} {l : List α} {n : Nat} {a : α} (h : l[n]? = some a) : l.set n a = l := by
  apply List.ext_getElem?
  intro i
  by_cases e : n = i
  · subst e
    rw [List.getElem?_set_self (List.getElem?_eq_some_iff.mp h).1, h]
  · rw [List.getElem?_set_ne e]
theorem append_run {M : Mem} {n : Nat} {l : List D} {d : D} (h : M[n]? = some (.lst l)) (hl : l.length < PySem.sizeLine) : appendD (.ref n) [d] M = some (.ok .non, M.set n (.lst (l ++ [d]))) := by
  simp [appendD, cur, h, hl]
theorem isL_ref {M : Mem} {n : Nat} {l : List D} (h : M[n]? = some (.lst l)) : isL M (.ref n) = true := by simp [isL, res, h]
theorem mul_small {i j : Int} (h : -(2 ^ 64) < j ∧ j < 2 ^ 64) : mulOk i j = true := by
  unfold mulOk; simp only [Bool.or_eq_true, decide_eq_true_eq]; exact .inl (.inr h)
theorem fdiv_small {j : Int} (h : j ≠ 0 ∧ j.natAbs < 1073741824) : fdivOk j = true := by
  unfold fdivOk; simp only [Bool.or_eq_true, decide_eq_true_eq]; exact .inl h
theorem last_at {M : Mem} {o : O} : (M ++ [o])[M.length]? = some o := by simp
theorem last_set {M : Mem} {o o' : O} : (M ++ [o]).set M.length o' = M ++ [o'] := by simp
theorem noref_map {α : Type} {f : α → D} (h : ∀ a, noref (f a) = true) (l : List α) : norefL (l.map f) = true := by
  rw [norefL_all, List.all_eq_true]
  intro d hd
  obtain ⟨a, _, rfl⟩ := List.mem_map.mp hd
  exact h a
theorem noref_lst {l : List D} (h : norefL l = true) : noref (.lst l) = true := by simpa [noref] using h
theorem noref_tup {l : List D} (h : norefL l = true) : noref (.tup l) = true := by simpa [noref] using h
theorem store_lst {M : Mem} {n : Nat} {l : List D} {r : Nat} {v : D} {ρ : En} (h : M[n]? = some (.lst l)) (hr : r < l.length) : storeM (.ref n) (.int r) v ρ M = some (.ok ρ, M.set n (.lst (l.set r v))) := by
  unfold storeM storeB
  have hi : L2.ixN l.length (r : Int) = some r := by
    unfold L2.ixN
    rw [if_pos (Int.natCast_nonneg r), if_pos (by omega)]
    simp
  simp only [h, hi]
theorem sub_ref {M : Mem} {n : Nat} {l : List D} {r : Nat} {d : D} (h : M[n]? = some (.lst l)) (hr : l[r]? = some d) : subD' (.ref n) (.int r) M = some (.ok d, M) := by
  unfold subD'
  have e : res M (.ref n) = .lst l := by simp [res, h]
  simp only [e, atD_nat hr]
theorem aPut_new {κ ν : Type} [DecidableEq κ] {l : List (κ × ν)} {k : κ} {v : ν} (h : k ∉ l.map (·.1)) : aPut l k v = l ++ [(k, v)] := by
  unfold aPut; rw [aGet_none.mpr h]; rfl
def objs (m : Nat) (f : Nat → O) : Mem := (List.range m).map f
theorem objs_len {m : Nat} {f : Nat → O} : (objs m f).length = m := by simp [objs]
theorem objs_get {M : Mem} {m q : Nat} {f : Nat → O} (h : q < m) : (M ++ objs m f)[M.length + q]? = some (f q) := by
  unfold objs
  rw [List.getElem?_append_right (by omega), Nat.add_sub_cancel_left, List.getElem?_map, List.getElem?_range h]
  rfl
theorem objs_set {M : Mem} {m q : Nat} {f : Nat → O} {o : O} : (M ++ objs m f).set (M.length + q) o = M ++ objs m (fun r => if r = q then o else f r) := by
  rw [List.set_append_right _ _ (by omega), Nat.add_sub_cancel_left]
  congr 1
  unfold objs
  apply List.ext_getElem?
  intro j
  by_cases hj : j < m
  · rw [List.getElem?_map, List.getElem?_range hj]
    by_cases e : q = j
    · subst e
      rw [List.getElem?_set_self (by simpa using hj)]
      simp
    · rw [List.getElem?_set_ne e, List.getElem?_map, List.getElem?_range hj]
      simp [Ne.symm e]
  · rw [List.getElem?_eq_none (by simp; omega), List.getElem?_eq_none (by simp; omega)]
theorem objs_congr {m : Nat} {f g : Nat → O} (h : ∀ r, r < m → f r = g r) : objs m f = objs m g := by
  unfold objs
  apply List.map_congr_left
  intro r hr
  exact h r (List.mem_range.mp hr)
theorem comp_new {o : O} {turn : D → Mo (List D)} : ∀ {l : List D} {M : Mem}, (∀ d ∈ l, ∀ M, turn d M = some (.ok [.ref M.length], M ++ [o])) → compL none turn l M = some (.ok ((List.range' M.length l.length).map .ref), M ++ List.replicate l.length o)
  | [], M, _ => by
    rw [show compL none turn [] M = some (.ok [], M) from guardM_none _ _]
    simp
  | d :: r, M, h => by
    rw [compL_cons', bnd_M (h d List.mem_cons_self M), bnd_M (comp_new fun e he => h e (List.mem_cons_of_mem _ he))]
    simp [Mo.ret, List.range'_succ, List.replicate_succ]
def refs (M : Mem) (n : Nat) : List D := (List.range' M.length n).map .ref
theorem refs_at {M : Mem} {n q : Nat} (h : q < n) : subD' (.lst (refs M n)) (.int q) = .ret (.ref (M.length + q)) := by
  refine sub_lst (atD_nat ?_)
  unfold refs
  rw [List.getElem?_map, List.getElem?_range' h]
  simp
theorem objs_rep {m : Nat} {o : O} : List.replicate m o = objs m fun _ => o := by
  unfold objs
  apply List.ext_getElem?
  intro j
  by_cases hj : j < m
  · simp [hj]
  · rw [List.getElem?_eq_none (by simp; omega), List.getElem?_eq_none (by simp; omega)]
theorem all_true2 {α : Type} {g : α → D} {turn : D → Mo (Option Bool)} {l : List α} (h : ∀ a ∈ l, turn (g a) = .ret (some true)) : genL true none turn (l.map g) = .ret true := by
  have e : l.all (fun _ => true) = true := List.all_eq_true.mpr fun _ _ => rfl
  rw [all_ret (p := fun _ => true) h, e]
theorem rep_len {α : Type} (x : α) (k : Nat) : repL [x] (k : Int) = List.replicate k x := by
  unfold repL
  rw [Int.toNat_natCast]
  simp [List.flatten_replicate_singleton]
def pos (L : List Nat) (r : Nat) : Option Nat := aGet L.zipIdx r
theorem zip_keys (L : List Nat) : L.zipIdx.map (·.1) = L := by simp
theorem pos_iff {L : List Nat} (nd : L.Nodup) {r a : Nat} : pos L r = some a ↔ L[a]? = some r := by
  unfold pos
  rw [aGet_mem (by rw [zip_keys]; exact nd), List.mem_zipIdx_iff_getElem?]
theorem pos_some {L : List Nat} {r : Nat} (h : r ∈ L) : ∃ a, pos L r = some a := by
  unfold pos
  rw [← aGet_key, zip_keys]
  exact h
theorem pos_mem {L : List Nat} {r a : Nat} (h : pos L r = some a) : r ∈ L := by
  have : r ∈ L.zipIdx.map (·.1) := aGet_key.mpr ⟨a, h⟩
  rw [zip_keys] at this
  exact this
def ordD (L : List Nat) : D := .tup (L.map eN)
theorem noref_ord (L : List Nat) : noref (ordD L) = true := noref_tup (noref_map (fun _ => rfl) _)
def posD (L : List Nat) : D := .dct false (kvs kI eN L.zipIdx)
theorem enL_ord (L : List Nat) : enL (L.map eN) = L.zipIdx.map fun p => .tup [.int p.2, .int p.1] := by
  apply List.ext_getElem?
  intro i
  by_cases hi : i < L.length
  · have h1 : (L.map eN)[i]? = some (.int (L[i] : Nat)) := by rw [List.getElem?_map, List.getElem?_eq_getElem hi]; rfl
    rw [enL_get h1, List.getElem?_map, List.getElem?_zipIdx, List.getElem?_eq_getElem hi]
    simp
  · rw [List.getElem?_eq_none (by rw [enL_len]; simp; omega), List.getElem?_eq_none (by simp; omega)]
theorem enumD_ord (L : List Nat) : enumD [ordD L] = .ret ⟨L.zipIdx.map fun p => .tup [.int p.2, .int p.1], none⟩ := by
  funext M
  unfold enumD ordD
  simp only [enL_ord]
  rfl
theorem comp_pos {L : List Nat} (nd : L.Nodup) (hl : L.length ≤ 900) {turn : D → Mo (List (D × D))} (ht : ∀ p : Nat × Nat, turn (.tup [.int p.2, .int p.1]) = .ret [(.int p.1, .int p.2)]) :
    cmpD false (stD false) [] (.dct false) (.dct false) (compL none turn (L.zipIdx.map fun p => .tup [.int p.2, .int p.1])) = .ret (posD L) := by
  rw [comp_one (f := fun p : Nat × Nat => (D.int p.1, D.int p.2)) (fun p _ => ht p)]
  have : (L.zipIdx.map fun p : Nat × Nat => (D.int p.1, D.int p.2)) = kvs kI eN L.zipIdx := rfl
  rw [this, cmp_kI eN (by rw [zip_keys]; exact nd) (by simp; omega)]
  rfl
theorem fm_map {α β : Type} {f : α → Option β} {g : α → β} : ∀ {l : List α}, (∀ a ∈ l, f a = some (g a)) → l.filterMap f = l.map g
  | [], _ => rfl
  | a :: l, h => by
    rw [List.filterMap_cons, h a List.mem_cons_self, List.map_cons, fm_map fun b hb => h b (List.mem_cons_of_mem _ hb)]
structure Ord (m : Nat) (L : List Nat) : Prop where
  len : L.length = m
  nd : L.Nodup
  lt : ∀ r ∈ L, r < m
  all : ∀ r, r < m → r ∈ L
theorem Ord.of_perm {m : Nat} {L : List Nat} (h : L.Perm (List.range m)) : Ord m L where
  len := by rw [h.length_eq]; simp
  nd := h.nodup_iff.mpr List.nodup_range
  lt := fun r hr => List.mem_range.mp (h.mem_iff.mp hr)
  all := fun r hr => h.mem_iff.mpr (List.mem_range.mpr hr)
def inv (m : Nat) (L : List Nat) : List Nat := (List.range m).map fun r => (pos L r).getD 0
theorem Ord.pos {m : Nat} {L : List Nat} (o : Ord m L) {r : Nat} (h : r < m) : ∃ a, pos L r = some a ∧ L[a]? = some r ∧ a < m := by
  obtain ⟨a, ha⟩ := pos_some (o.all r h)
  have h2 := (pos_iff o.nd).mp ha
  refine ⟨a, ha, h2, ?_⟩
  have := (List.getElem?_eq_some_iff.mp h2).1
  rw [o.len] at this
  exact this
theorem inv_get {m : Nat} {L : List Nat} (o : Ord m L) {r a : Nat} : (inv m L)[r]? = some a ↔ L[a]? = some r := by
  unfold inv
  constructor
  · intro h
    rw [List.getElem?_map] at h
    by_cases hr : r < m
    · rw [List.getElem?_range hr] at h
      obtain ⟨a', h1, h2, _⟩ := o.pos hr
      simp only [Option.map_some, h1, Option.getD_some] at h
      cases h
      exact h2
    · rw [List.getElem?_eq_none (by simp; omega)] at h; cases h
  · intro h
    have hr : r < m := o.lt _ (List.mem_of_getElem? h)
    rw [List.getElem?_map, List.getElem?_range hr]
    simp only [Option.map_some, (pos_iff o.nd).mpr h, Option.getD_some]
theorem Ord.inv {m : Nat} {L : List Nat} (o : Ord m L) : Ord m (inv m L) where
  len := by simp [DL.inv]
  nd := by
    rw [List.nodup_iff_pairwise_ne, List.pairwise_iff_getElem]
    intro i j hi hj hij e
    have h1 := (inv_get o).mp (List.getElem?_eq_getElem hi)
    have h2 := (inv_get o).mp (List.getElem?_eq_getElem hj)
    rw [e, h2] at h1
    cases h1
    omega
  lt := fun a ha => by
    obtain ⟨r, hr⟩ := List.mem_iff_getElem?.mp ha
    have h2 := (inv_get o).mp hr
    have := (List.getElem?_eq_some_iff.mp h2).1
    rw [o.len] at this
    exact this
  all := fun a ha => by
    have : a < L.length := by rw [o.len]; exact ha
    exact List.mem_of_getElem? ((inv_get o).mpr (List.getElem?_eq_getElem this))
theorem rep_int (m : Nat) (hm : m ≤ 900) (M : Mem) : repD true (.lst [.int 0]) (.int m) M = some (.ok (.ref M.length), M ++ [.lst ((List.range m).map fun _ => eN 0)]) := by
  have e : repL [D.int 0] (m : Int) = (List.range m).map fun _ => eN 0 := by
    rw [rep_len]
    apply List.ext_getElem?
    intro j
    by_cases hj : j < m
    · simp [hj]; rfl
    · rw [List.getElem?_eq_none (by simp; omega), List.getElem?_eq_none (by simp; omega)]
  unfold repD
  have h : (decide (-1000 ≤ (m : Int)) && decide ((m : Int) ≤ 1000) && decide ([D.int 0].length ≤ 1000)) = true := by
    simp; omega
  simp only [h, cond_true, e]
  rfl
theorem pos_snoc {L : List Nat} {r x : Nat} (h : x ∉ L) : pos (L ++ [x]) r = if r = x then some L.length else pos L r := by
  unfold pos
  rw [List.zipIdx_append, aGet_app]
  by_cases e : r = x
  · subst e
    rw [if_pos rfl, aGet_none.mpr (by rw [zip_keys]; exact h)]
    simp [aGet]
  · rw [if_neg e]
    cases aGet L.zipIdx r <;> simp [aGet, Ne.symm e]
theorem toI_map (L : List Nat) : (L.map eN).mapM toI = some (L.map fun n : Nat => (n : Int)) := by
  induction L with
  | nil => rfl
  | cons a l ih =>
    rw [List.map_cons, List.mapM_cons, ih]
    rfl
theorem len_set {L : List Nat} (nd : L.Nodup) (h : L.length ≤ 900) : lenSD (ordD L) = .ret (.int L.length) := by
  funext M
  unfold lenSD ordD
  simp only [toI_map]
  have hl : decide ((L.map fun n : Nat => (n : Int)).length ≤ 4000) = true := by simp; omega
  have hn : (L.map fun n : Nat => (n : Int)).Nodup := by
    unfold List.Nodup at *
    rw [List.pairwise_map]
    exact nd.imp fun h q => h (by omega)
  rw [hl, cond_true]
  have z := RZ.firstMet_nodup hn _ (Nat.le_refl _)
  show some (Except.ok (D.int (fM (L.map fun n : Nat => (n : Int)) (L.map fun n : Nat => (n : Int)).length).length), M) = _
  rw [show fM (L.map fun n : Nat => (n : Int)) (L.map fun n : Nat => (n : Int)).length = _ from z]
  simp
  rfl
def dM2 (L0 xs : List Int) : Mem := [.lst (L0.map .int), .lst (xs.map .int)]
theorem norefL_nats (xs : List Nat) : norefL (xs.map eN) = true := noref_map (fun _ => rfl) _
theorem dM2_nr (L0 xs : List Int) : NR (dM2 L0 xs) := by
  intro o ho
  simp only [dM2, List.mem_cons, List.not_mem_nil, or_false] at ho
  rcases ho with rfl | rfl
  · exact norefL_ints _
  · exact norefL_ints _
theorem lrg_nat {m : Nat} (h : m ≤ 900) : lrgD false (.int 0) (.int m) = .ret (.lst ((List.range m).map eN)) := by
  funext M
  have e : rgL 0 (m : Int) = (List.range m).map eN := by
    unfold rgL
    have : ((m : Int) - 0).toNat = m := by omega
    rw [this]
    apply List.map_congr_left
    intro i _
    simp [eN]
  unfold lrgD
  have h0 : rngB 0 = true := by rfl
  have h1 : rngB (m : Int) = true := by unfold rngB; simp; omega
  simp only [h0, h1, Bool.and_self, cond_true, e]
  rfl
theorem pl_nats (l : List Nat) : okD (.lst (l.map eN)) := by
  induction l with
  | nil => exact ⟨rfl, by decide⟩
  | cons a r ih =>
    obtain ⟨h1, h2⟩ := ih
    refine ⟨?_, ?_⟩
    · show (true && plL (r.map eN)) = true
      have h1 : plL (r.map eN) = true := h1
      rw [h1]; rfl
    · show max 0 (dptL (r.map eN)) + 1 ≤ 64
      have h2 : dptL (r.map eN) + 1 ≤ 64 := h2
      omega
theorem erase_map {α β : Type} (g : α → β) : ∀ (l : List α) (i : Nat), (l.map g).eraseIdx i = (l.eraseIdx i).map g
  | [], _ => rfl
  | a :: l, 0 => rfl
  | a :: l, i + 1 => by
    rw [List.map_cons, List.eraseIdx_cons_succ, List.eraseIdx_cons_succ, List.map_cons, erase_map g l i]
theorem erase_perm {α : Type} : ∀ {l : List α} {i : Nat} {d : α}, l[i]? = some d → (d :: l.eraseIdx i).Perm l
  | [], _, _, h => by cases h
  | a :: l, 0, d, h => by
    cases h
    exact .refl _
  | a :: l, i + 1, d, h => by
    rw [List.eraseIdx_cons_succ]
    exact (List.Perm.swap _ _ _).trans (.cons _ (erase_perm h))
theorem perm_erase {l f : List Nat} {i d : Nat} (h : l[i]? = some d) : ((f ++ [d]) ++ l.eraseIdx i).Perm (f ++ l) := by
  rw [List.append_assoc]
  exact List.Perm.append_left f (erase_perm h)
mutual
/-- ints, tuples and lists of such -/
def tI : D → Bool
  | .int _ => true
  | .non => true
  | .tup l => decide (l.length ≤ 900) && tIL l
  | .lst l => decide (l.length ≤ 900) && tIL l
  | _ => false
def tIL : List D → Bool
  | [] => true
  | d :: r => tI d && tIL r
end
theorem tIL_all : ∀ {l : List D}, tIL l = true ↔ ∀ d ∈ l, tI d = true
  | [] => by simp [tIL]
  | d :: r => by simp [tIL, tIL_all (l := r)]
theorem dpt_le : ∀ {l : List D} {d : D}, d ∈ l → dpt d ≤ dptL l
  | [], _, h => by cases h
  | a :: l, d, h => by
    rw [dptL]
    rcases List.mem_cons.mp h with h | h
    · subst h; omega
    · have := dpt_le h; omega
theorem dptL_le {l : List D} {k : Nat} (h : ∀ d ∈ l, dpt d ≤ k) : dptL l ≤ k := by
  induction l with
  | nil => exact Nat.zero_le _
  | cons a r ih =>
    rw [dptL]
    have := h a List.mem_cons_self
    have := ih fun d hd => h d (List.mem_cons_of_mem _ hd)
    omega
@[simp] theorem isD_int_non (i : Int) : isD (.int i) .non = .ret (.bl false) := rfl
theorem eq_nil : eqD (.lst []) (.lst []) = .ret (.bl true) := by
  rw [eqD_pl ⟨rfl, by decide⟩ ⟨rfl, by decide⟩]; simp
theorem ne_nil : neD (.lst []) (.lst []) = .ret (.bl false) := by
  rw [neD_pl ⟨rfl, by decide⟩ ⟨rfl, by decide⟩]; simp
theorem filter_none {α : Type} {l : List α} : l.filter (fun _ => false) = [] := by
  induction l with
  | nil => rfl
  | cons a r ih => rw [List.filter_cons]; simpa using ih
@[simp] theorem ne_bl (i j : Bool) : neD (.bl i) (.bl j) = .ret (.bl (!(i == j))) := by
  funext M; unfold neD eqB
  simp only [res, py]
  rw [if_pos ⟨rfl, rfl⟩]; rfl
theorem lst_ok13 (ds : List D) (h : ds.length ≤ 13) : lstD ds = .ret (.lst ds) := lst_ok (small_len (by omega))
end DL
namespace K67
open PySem PySem.Spec PyProof.Rows L2 DL
def top (i : Nat) : Stmt := PySem.Challenge.pw_factorsagree_k67_whole_tasks_of_orders.main.body.getD i (.Pass ⟨0, 0, 0, 0⟩)
abbrev Fd (T : TP) (i : Nat) (x q : Str) (ps : List Str) (f : Addr) (fd : FuncData) : Prop := FunD T.F q q (defArgs (top i)) (defBody (top i)) (defScope (top i)) [] [] f fd ∧ T.mg x = some (.ref f) ∧ PySem.W.keepIn T.F (.ref f) = true ∧ Binds T.F fd ps []
abbrev Ex (T : TP) (x : Str) (C : Addr) : Prop := T.mg x = some (.ref C) ∧ (PySem.W.excIn T.F C He.veBase "ValueError.__new__" = true ∧ PySem.W.keepIn T.F (.ref C) = true ∧ PySem.W.subIn T.F (.ref C) (.type "BaseException") = some true ∧ PySem.W.typeIn T.F (.ref C) = some (.type "type"))
structure Gl (T : TP) (ad : Str → Addr) (fo : Str → FuncData) (ct : Str → Addr × Addr) : Prop where
  n_abs : T.mg "abs" = none
  n_all : T.mg "all" = none
  n_bool : T.mg "bool" = none
  n_enumerate : T.mg "enumerate" = none
  n_int : T.mg "int" = none
  n_isinstance : T.mg "isinstance" = none
  n_len : T.mg "len" = none
  n_list : T.mg "list" = none
  n_min : T.mg "min" = none
  n_range : T.mg "range" = none
  n_reversed : T.mg "reversed" = none
  n_set : T.mg "set" = none
  n_sorted : T.mg "sorted" = none
  n_str : T.mg "str" = none
  n_tuple : T.mg "tuple" = none
  c_MOST_TASKS : ∃ t, T.mg "MOST_TASKS" = some (.int (60) t)
  c_MOST_CELLS : ∃ t, T.mg "MOST_CELLS" = some (.int (1000000) t)
  x_Malformed : Ex T "Malformed" (ad "Malformed")
  f_is_number : Fd T 4 "is_number" "is_number" ["value", "least", "most"] (ad "is_number") (fo "is_number")
  f_is_order : Fd T 6 "is_order" "is_order" ["value", "many"] (ad "is_order") (fo "is_order")
  t_is_order : GxR.TabB T.base T.mg (ct "is_order").1 (ct "is_order").2 ∧ (fo "is_order").code = .ref (ct "is_order").1 ∧ (ct "is_order").2 ∈ T.cs.map (·.2)
  f_turned : Fd T 7 "turned" "turned" ["order"] (ad "turned") (fo "turned")
  f_neighbours : Fd T 9 "neighbours" "neighbours" ["graph"] (ad "neighbours") (fo "neighbours")
  f_check_order : Fd T 11 "check_order" "check_order" ["graph", "order"] (ad "check_order") (fo "check_order")
  f_eliminated : Fd T 12 "eliminated" "eliminated" ["near", "point"] (ad "eliminated") (fo "eliminated")
  f_fill_of : Fd T 13 "fill_of" "fill_of" ["graph", "order"] (ad "fill_of") (fo "fill_of")
  f_filled : Fd T 14 "filled" "filled" ["graph", "order"] (ad "filled") (fo "filled")
  f_later_of : Fd T 15 "later_of" "later_of" ["graph", "order"] (ad "later_of") (fo "later_of")
  l_later_of : GxR.TabB T.base T.mg (ct "later_of").1 (ct "later_of").2 ∧ (fo "later_of").code = .ref (ct "later_of").1 ∧ ((ct "later_of").2, ("later_of" : Str) ++ ".<locals>." ++ "<lambda>") ∈ T.ls
  f_are_tasks : Fd T 19 "are_tasks" "are_tasks" ["value"] (ad "are_tasks") (fo "are_tasks")
  f_children_in : Fd T 20 "children_in" "children_in" ["tasks"] (ad "children_in") (fo "children_in")
  f_tops_in : Fd T 21 "tops_in" "tops_in" ["tasks"] (ad "tops_in") (fo "tops_in")
  f_tasks_of : Fd T 22 "tasks_of" "tasks_of" ["graph", "order"] (ad "tasks_of") (fo "tasks_of")
  f__law_draws : Fd T 24 "_law_draws" "_law_draws" ["script"] (ad "_law_draws") (fo "_law_draws")
  f__law_take : Fd T 25 "_law_take" "_law_take" ["draws", "bound"] (ad "_law_take") (fo "_law_take")
  f__law_alike : Fd T 26 "_law_alike" "_law_alike" ["found", "due"] (ad "_law_alike") (fo "_law_alike")
  f__law_graph : Fd T 27 "_law_graph" "_law_graph" ["draws", "points", "many"] (ad "_law_graph") (fo "_law_graph")
  f__law_shuffled : Fd T 28 "_law_shuffled" "_law_shuffled" ["draws", "rows"] (ad "_law_shuffled") (fo "_law_shuffled")
  f__law_tasks : Fd T 29 "_law_tasks" "_law_tasks" ["draws", "most", "cells"] (ad "_law_tasks") (fo "_law_tasks")
  f__law_children : Fd T 30 "_law_children" "_law_children" ["tasks"] (ad "_law_children") (fo "_law_children")
  f__law_filled : Fd T 31 "_law_filled" "_law_filled" ["graph", "order"] (ad "_law_filled") (fo "_law_filled")
  f__law_tasks_of : Fd T 32 "_law_tasks_of" "_law_tasks_of" ["graph", "order"] (ad "_law_tasks_of") (fo "_law_tasks_of")
  f__law_order : Fd T 33 "_law_order" "_law_order" ["draws", "side"] (ad "_law_order") (fo "_law_order")
  f_law : Fd T 34 "law" "law" ["script"] (ad "law") (fo "law")
section
variable {T : TP} {ad : Str → Addr} {fo : Str → FuncData} {ct : Str → Addr × Addr}
/-- is_number -/
def N_is_number : List Str := ["value", "least", "most"]
noncomputable def g_is_number : Sn := fun ρ => sE (.bnd (.bnd (.bnd (.bnd (getV ρ 0) fun d => .bnd (.bnd (.ret (.ty "int")) fun d => .bnd (.ret []) fun ds => .ret (d :: ds)) fun ds => .ret (d :: ds)) (arg2 isiD)) boolD) fun z => cond z (.bnd (.bnd (.bnd (.bnd (.bnd (.bnd (getV ρ 0) fun d => .bnd (.bnd (.ret (.ty "bool")) fun d => .bnd (.ret []) fun ds => .ret (d :: ds)) fun ds => .ret (d :: ds)) (arg2 isiD)) boolD) fun z => .ret (.bl (!z))) boolD) fun z => cond z (.bnd (getV ρ 1) fun a => .bnd (getV ρ 0) fun b => .bnd (.bnd (leD a b) boolD) fun z => cond z (.bnd (getV ρ 2) fun c => leD b c) (.ret (.bl false))) (.ret (.bl false))) (.ret (.bl false))) ρ fun d M => some (.ret d, M)
theorem s_is_number : FnScope N_is_number ["value", "least", "most"] (defScope (top 4)) := ⟨by kernel_rfl, by kernel_rfl, by kernel_rfl, nd_of (by kernel_rfl), by kernel_rfl, par_ok (by kernel_rfl), nofree_ok (by kernel_rfl)⟩
noncomputable def m_is_number : List D → Mo D := fnD N_is_number g_is_number
theorem b_is_number (G : Gl T ad fo ct) {k : Nat} (hk : 0 ≤ k) (Wx : WX) : BX (T.sc N_is_number (defScope (top 4)) k Wx (fo "is_number").code) (defBody (top 4)) g_is_number := by
  have nd : (T.sc N_is_number (defScope (top 4)) k Wx (fo "is_number").code).N.Nodup := s_is_number.nd
  unfold g_is_number
  exact bx_one (sx_ret (ex_and (ex_callB cx_isi rfl G.n_isinstance rfl (ax_cons (ex_var 0) (ax_cons (ex_ty rfl G.n_int rfl) (ax_nil)))) (ex_and (ex_not (ex_callB cx_isi rfl G.n_isinstance rfl (ax_cons (ex_var 0) (ax_cons (ex_ty rfl G.n_bool rfl) (ax_nil))))) (ex_one (ex_chain ox_le ox_le (ex_var 1) (ex_var 0) (ex_var 2))))))
theorem h_is_number (G : Gl T ad fo ct) : FnD T 1 (ad "is_number") (fo "is_number") ["value", "least", "most"] m_is_number := fnd_of G.f_is_number.1 s_is_number fun Wx => b_is_number G (Nat.le_refl _) Wx
/-- is_order -/
def N_is_order : List Str := ["value", "many", "one"]
noncomputable def g_is_order : Sn := sSeq (sIf (fun ρ => .bnd (.bnd (.bnd (.bnd (.bnd (getV ρ 0) fun d => .bnd (.bnd (.ret (.ty "tuple")) fun d => .bnd (.ret []) fun ds => .ret (d :: ds)) fun ds => .ret (d :: ds)) (arg2 isiD)) boolD) fun b => .ret (!b)) fun z => cond z (.ret true) (.bnd (.bnd (.bnd (.bnd (.bnd (getV ρ 0) fun d => .bnd (.ret []) fun ds => .ret (d :: ds)) (arg1 lenD)) fun a => .bnd (getV ρ 1) fun b => neD a b) boolD) fun z => cond z (.ret true) (.bnd (.bnd (.bnd (.bnd (getV ρ 0) itD) fun it => genD (genL true it.gd (turnG (wipeR ρ [2]) (fun d ρ => .ret (ρ.set 2 (some d))) (fun _ => .ret true) (fun ρ => .bnd (.bnd (getV ρ 2) fun d => .bnd (.bnd (.ret (.int 0)) fun d => .bnd (.bnd (.bnd (getV ρ 1) fun a => .bnd (.ret (.int 1)) fun b => subD a b) fun d => .bnd (.ret []) fun ds => .ret (d :: ds)) fun ds => .ret (d :: ds)) fun ds => .ret (d :: ds)) (m_is_number))) it.items)) boolD) fun b => .ret (!b))))
      (fun ρ => sE (.ret (.bl false)) ρ fun d M => some (.ret d, M))
      (sNext))
      (fun ρ => sE (.bnd (.bnd (getV ρ 0) lenSD) fun a => .bnd (getV ρ 1) fun b => eqD a b) ρ fun d M => some (.ret d, M))
theorem s_is_order : FnScope N_is_order ["value", "many"] (defScope (top 6)) := ⟨by kernel_rfl, by kernel_rfl, by kernel_rfl, nd_of (by kernel_rfl), by kernel_rfl, par_ok (by kernel_rfl), nofree_ok (by kernel_rfl)⟩
noncomputable def m_is_order : List D → Mo D := fnD N_is_order g_is_order
theorem b_is_order (G : Gl T ad fo ct) {k : Nat} (hk : 2 ≤ k) (Wx : WX) : BX (T.sc N_is_order (defScope (top 6)) k Wx (fo "is_order").code) (defBody (top 6)) g_is_order := by
  have nd : (T.sc N_is_order (defScope (top 6)) k Wx (fo "is_order").code).N.Nodup := s_is_order.nd
  have H_is_number := h_is_number (T := T) G
  obtain ⟨TB, hcode, hP⟩ := G.t_is_order
  have hk1 : 1 ≤ k := by omega
  unfold g_is_order
  exact bx_cons (sx_if (tx_w (wx_or (tx_not (tx_bool (ex_callB cx_isi rfl G.n_isinstance rfl (ax_cons (ex_var 0) (ax_cons (ex_ty rfl G.n_tuple rfl) (ax_nil)))))) (wx_or (tx_cmp ox_ne (ex_callB cx_len rfl G.n_len rfl (ax_cons (ex_var 0) (ax_nil))) (ex_var 1)) (wx_or1 (tx_not (tx_bool (ex_gen true [("one", 2)] hk1 nd rfl G.n_all rfl TB (congrArg some hcode) hP (blk_ok (by kernel_rfl)) (by decide) rfl rfl (ix_all (ex_var 0)) (gv_name 2 nd) (txs_nil) (ex_call H_is_number (show 1 ≤ k - 1 by omega) rfl G.f_is_number.2.1 G.f_is_number.2.2.1 G.f_is_number.2.2.2 (ax_cons (ex_var 2) (ax_cons (ex_int) (ax_cons (ex_op ox_sub (ex_var 1) (ex_int)) (ax_nil)))) (fun _ _ _ _ h => len_cons (n := 2) (len_cons (n := 1) (len_cons (n := 0) ln0)) _ _ _ h)))))))))
      (bx_one (sx_ret (ex_bl)))
      (bx_nil))
      (bx_one (sx_ret (ex_cmp ox_eq (ex_lenS rfl G.n_len rfl G.n_set (ex_var 0)) (ex_var 1))))
theorem h_is_order (G : Gl T ad fo ct) : FnD T 3 (ad "is_order") (fo "is_order") ["value", "many"] m_is_order := fnd_of G.f_is_order.1 s_is_order fun Wx => b_is_order G (Nat.le_refl _) Wx
/-- turned -/
def N_turned : List Str := ["order", "found", "at", "one"]
noncomputable def l1_turned : Sn := fun ρ => sE (getV ρ 2) ρ fun d => s0 (.bnd (getV ρ 1) fun a => .bnd (getV ρ 3) fun b => storeM a b d ρ)
noncomputable def g_turned : Sn := sSeq (fun ρ => sE (.bnd (.bnd (.bnd (.ret (.int 0)) fun d => .bnd (.ret []) fun ds => .ret (d :: ds)) lstD) fun a => .bnd (.bnd (.bnd (getV ρ 0) fun d => .bnd (.ret []) fun ds => .ret (d :: ds)) (arg1 lenD)) fun b => repD true a b) ρ fun d M => some (.nx (ρ.set 1 (some d)), M))
      (sSeq (sFor (fun ρ => .bnd (.bnd (getV ρ 0) fun d => .bnd (.ret []) fun ds => .ret (d :: ds)) enumD) (fun d ρ => .bnd (itemsT 2 d) fun ds => (gConsD (fun d ρ => .ret (ρ.set 2 (some d))) (gConsD (fun d ρ => .ret (ρ.set 3 (some d))) gNilD)) ds ρ) l1_turned)
      (fun ρ => sE (.bnd (.bnd (getV ρ 1) fun d => .bnd (.ret []) fun ds => .ret (d :: ds)) (arg1 tupleD)) ρ fun d M => some (.ret d, M)))
theorem s_turned : FnScope N_turned ["order"] (defScope (top 7)) := ⟨by kernel_rfl, by kernel_rfl, by kernel_rfl, nd_of (by kernel_rfl), by kernel_rfl, par_ok (by kernel_rfl), nofree_ok (by kernel_rfl)⟩
noncomputable def m_turned : List D → Mo D := fnD N_turned g_turned
theorem b_turned (G : Gl T ad fo ct) {k : Nat} (hk : 0 ≤ k) (Wx : WX) : BX (T.sc N_turned (defScope (top 7)) k Wx (fo "turned").code) (defBody (top 7)) g_turned := by
  have nd : (T.sc N_turned (defScope (top 7)) k Wx (fo "turned").code).N.Nodup := s_turned.nd
  unfold g_turned l1_turned
  exact bx_cons (sx_set 1 nd (ex_op (ox_rep true) (ex_lst (ax_cons (ex_int) (ax_nil))) (ex_callB cx_len rfl G.n_len rfl (ax_cons (ex_var 0) (ax_nil)))))
      (bx_cons (sx_for rfl (ix_enum rfl G.n_enumerate (ax_cons (ex_var 0) (ax_nil))) (gx_tup (n := 2) (gxs_cons (gx_name 2 nd) (gxs_cons (gx_name 3 nd) (gxs_nil))))
      (bx_one (sx_asg (ex_var 2) (gx_sub (ex_var 1) (ex_var 3)))))
      (bx_one (sx_ret (ex_callTy cx_tuple rfl G.n_tuple rfl (ax_cons (ex_var 1) (ax_nil))))))
theorem h_turned (G : Gl T ad fo ct) : FnD T 1 (ad "turned") (fo "turned") ["order"] m_turned := fnd_of G.f_turned.1 s_turned fun Wx => b_turned G (Nat.le_refl _) Wx
/-- neighbours -/
def N_neighbours : List Str := ["graph", "_", "found", "one", "other"]
noncomputable def l1_neighbours : Sn := sSeq (fun ρ => sE (.ret (.bl true)) ρ fun d => s0 (.bnd (.bnd (getV ρ 2) fun a => .bnd (getV ρ 3) fun b => subD' a b) fun a => .bnd (getV ρ 4) fun b => storeM a b d ρ))
      (fun ρ => sE (.ret (.bl true)) ρ fun d => s0 (.bnd (.bnd (getV ρ 2) fun a => .bnd (getV ρ 4) fun b => subD' a b) fun a => .bnd (getV ρ 3) fun b => storeM a b d ρ))
noncomputable def g_neighbours : Sn := sSeq (fun ρ => sE (.bnd (.bnd (.bnd (.bnd (getV ρ 0) fun a => .bnd (.ret (.int 0)) fun b => subD' a b) fun d => .bnd (.ret []) fun ds => .ret (d :: ds)) rngD1) fun it => cmpD true stL [] .lst .lst (compL it.gd (turn1 (wipeR ρ [1]) (fun d ρ => .ret (ρ.set 1 (some d))) (fun _ => .ret true) (one' fun ρ => finDO true (.dct false []) (.dct false []))) it.items)) ρ fun d M => some (.nx (ρ.set 2 (some d)), M))
      (sSeq (sFor (fun ρ => .bnd (.bnd (getV ρ 0) fun a => .bnd (.ret (.int 1)) fun b => subD' a b) itD) (fun d ρ => .bnd (itemsT 2 d) fun ds => (gConsD (fun d ρ => .ret (ρ.set 3 (some d))) (gConsD (fun d ρ => .ret (ρ.set 4 (some d))) gNilD)) ds ρ) l1_neighbours)
      (fun ρ => sE (getV ρ 2) ρ fun d M => some (.ret d, M)))
theorem s_neighbours : FnScope N_neighbours ["graph"] (defScope (top 9)) := ⟨by kernel_rfl, by kernel_rfl, by kernel_rfl, nd_of (by kernel_rfl), by kernel_rfl, par_ok (by kernel_rfl), nofree_ok (by kernel_rfl)⟩
noncomputable def m_neighbours : List D → Mo D := fnO N_neighbours g_neighbours
theorem b_neighbours (G : Gl T ad fo ct) {k : Nat} (hk : 0 ≤ k) (Wx : WX) : BX (T.sc N_neighbours (defScope (top 9)) k Wx (fo "neighbours").code) (defBody (top 9)) g_neighbours := by
  have nd : (T.sc N_neighbours (defScope (top 9)) k Wx (fo "neighbours").code).N.Nodup := s_neighbours.nd
  unfold g_neighbours l1_neighbours
  exact bx_cons (sx_setC 2 (lx_l1 true [("_", 1)]  nd (blk_ok (by kernel_rfl))  (ix_range1 rfl G.n_range (ax_cons (ex_sub (ex_var 0) (ex_int)) (ax_nil))) (gv_name 1 nd) (txs_nil)  (ex_dict0 true false)) (hs := fun X c => sw_lc c rfl rfl (by kernel_rfl)))
      (bx_cons (sx_for rfl (ix_all (ex_sub (ex_var 0) (ex_int))) (gx_tup (n := 2) (gxs_cons (gx_name 3 nd) (gxs_cons (gx_name 4 nd) (gxs_nil))))
      (bx_cons (sx_asg (ex_bl) (gx_sub (ex_sub (ex_var 2) (ex_var 3)) (ex_var 4)))
      (bx_one (sx_asg (ex_bl) (gx_sub (ex_sub (ex_var 2) (ex_var 4)) (ex_var 3))))))
      (bx_one (sx_ret (ex_var 2))))
theorem h_neighbours (G : Gl T ad fo ct) : FnD T 1 (ad "neighbours") (fo "neighbours") ["graph"] m_neighbours := fno_of G.f_neighbours.1 s_neighbours fun Wx => b_neighbours G (Nat.le_refl _) Wx
noncomputable def m_neighbours_c : List D → Mo D := fnD N_neighbours g_neighbours
theorem h_neighbours_c (G : Gl T ad fo ct) : FnD T 1 (ad "neighbours") (fo "neighbours") ["graph"] m_neighbours_c := fnd_of G.f_neighbours.1 s_neighbours fun Wx => b_neighbours G (Nat.le_refl _) Wx
/-- check_order -/
def N_check_order : List Str := ["graph", "order"]
noncomputable def g_check_order : Sn := sIf (fun ρ => .bnd (.bnd (.bnd (.bnd (getV ρ 1) fun d => .bnd (.bnd (.bnd (getV ρ 0) fun a => .bnd (.ret (.int 0)) fun b => subD' a b) fun d => .bnd (.ret []) fun ds => .ret (d :: ds)) fun ds => .ret (d :: ds)) (m_is_order)) boolD) fun b => .ret (!b))
      (fun ρ M => some (.exc "Malformed" ρ, M))
      (sNext)
theorem s_check_order : FnScope N_check_order ["graph", "order"] (defScope (top 11)) := ⟨by kernel_rfl, by kernel_rfl, by kernel_rfl, nd_of (by kernel_rfl), by kernel_rfl, par_ok (by kernel_rfl), nofree_ok (by kernel_rfl)⟩
noncomputable def m_check_order : List D → Mo D := fnD N_check_order g_check_order
theorem b_check_order (G : Gl T ad fo ct) {k : Nat} (hk : 3 ≤ k) (Wx : WX) : BX (T.sc N_check_order (defScope (top 11)) k Wx (fo "check_order").code) (defBody (top 11)) g_check_order := by
  have nd : (T.sc N_check_order (defScope (top 11)) k Wx (fo "check_order").code).N.Nodup := s_check_order.nd
  have H_is_order := h_is_order (T := T) G
  unfold g_check_order
  exact bx_one (sx_if (tx_not (tx_bool (ex_call H_is_order (show 3 ≤ k by omega) rfl G.f_is_order.2.1 G.f_is_order.2.2.1 G.f_is_order.2.2.2 (ax_cons (ex_var 1) (ax_cons (ex_sub (ex_var 0) (ex_int)) (ax_nil))) (fun _ _ _ _ h => len_cons (n := 1) (len_cons (n := 0) ln0) _ _ _ h))))
      (bx_one (sx_raise G.x_Malformed.1 G.x_Malformed.2 rfl))
      (bx_nil))
theorem h_check_order (G : Gl T ad fo ct) : FnD T 4 (ad "check_order") (fo "check_order") ["graph", "order"] m_check_order := fnd_of G.f_check_order.1 s_check_order fun Wx => b_check_order G (Nat.le_refl _) Wx
/-- eliminated -/
def N_eliminated : List Str := ["near", "point", "around", "come", "one", "other"]
noncomputable def l1_eliminated : Sn := sIf (fun ρ => .bnd (.bnd (.bnd (getV ρ 4) fun a => .bnd (getV ρ 5) fun b => ltD a b) boolD) fun z => cond z (.bnd (.bnd (getV ρ 5) fun a => .bnd (.bnd (getV ρ 0) fun a => .bnd (getV ρ 4) fun b => subD' a b) fun b => ninAll a b) boolD) (.ret false))
      (sSeq (fun ρ => sE (.ret (.bl true)) ρ fun d => s0 (.bnd (.bnd (getV ρ 0) fun a => .bnd (getV ρ 4) fun b => subD' a b) fun a => .bnd (getV ρ 5) fun b => storeM a b d ρ))
      (sSeq (fun ρ => sE (.ret (.bl true)) ρ fun d => s0 (.bnd (.bnd (getV ρ 0) fun a => .bnd (getV ρ 5) fun b => subD' a b) fun a => .bnd (getV ρ 4) fun b => storeM a b d ρ))
      (fun ρ => sE (.bnd (getV ρ 3) fun a => chkM isL a (.bnd (.bnd (.bnd (.bnd (getV ρ 4) fun d => .bnd (.bnd (getV ρ 5) fun d => .bnd (.ret []) fun ds => .ret (d :: ds)) fun ds => .ret (d :: ds)) tupD) fun d => .bnd (.ret []) fun ds => .ret (d :: ds)) fun ds => appendD a ds)) ρ fun _ M => some (.nx ρ, M))))
      (sNext)
noncomputable def l2_eliminated : Sn := sSeq (fun ρ => sE (.bnd (.bnd (getV ρ 0) fun a => .bnd (getV ρ 4) fun b => subD' a b) fun a => chkM isDc a (.bnd (.bnd (getV ρ 1) fun d => .bnd (.ret []) fun ds => .ret (d :: ds)) fun ds => dpopD a ds)) ρ fun _ M => some (.nx ρ, M))
      (sFor (fun ρ => .bnd (getV ρ 2) itD) (fun d ρ => .ret (ρ.set 5 (some d))) l1_eliminated)
noncomputable def g_eliminated : Sn := sSeq (fun ρ => sE (.bnd (.bnd (.bnd (getV ρ 0) fun a => .bnd (getV ρ 1) fun b => subD' a b) fun d => .bnd (.ret []) fun ds => .ret (d :: ds)) (arg1 (sortedD false))) ρ fun d M => some (.nx (ρ.set 2 (some d)), M))
      (sSeq (fun ρ => sE (.bnd (.ret []) newL) ρ fun d M => some (.nx (ρ.set 3 (some d)), M))
      (sSeq (sFor (fun ρ => .bnd (getV ρ 2) itD) (fun d ρ => .ret (ρ.set 4 (some d))) l2_eliminated)
      (sSeq (fun ρ => sE (finDO false (.dct false []) (.dct false [])) ρ fun d => s0 (.bnd (getV ρ 0) fun a => .bnd (getV ρ 1) fun b => storeM a b d ρ))
      (fun ρ => sE (getV ρ 3) ρ fun d M => some (.ret d, M)))))
theorem s_eliminated : FnScope N_eliminated ["near", "point"] (defScope (top 12)) := ⟨by kernel_rfl, by kernel_rfl, by kernel_rfl, nd_of (by kernel_rfl), by kernel_rfl, par_ok (by kernel_rfl), nofree_ok (by kernel_rfl)⟩
noncomputable def m_eliminated : List D → Mo D := fnD N_eliminated g_eliminated
theorem b_eliminated (G : Gl T ad fo ct) {k : Nat} (hk : 0 ≤ k) (Wx : WX) : BX (T.sc N_eliminated (defScope (top 12)) k Wx (fo "eliminated").code) (defBody (top 12)) g_eliminated := by
  have nd : (T.sc N_eliminated (defScope (top 12)) k Wx (fo "eliminated").code).N.Nodup := s_eliminated.nd
  unfold g_eliminated l2_eliminated l1_eliminated
  exact bx_cons (sx_set 2 nd (ex_callB (cx_sorted false) rfl G.n_sorted rfl (ax_cons (ex_sub (ex_var 0) (ex_var 1)) (ax_nil))))
      (bx_cons (sx_set 3 nd (ex_lstM (ax_nil)))
      (bx_cons (sx_for rfl (ix_all (ex_var 2)) (gx_name 4 nd)
      (bx_cons (sx_expr (ex_meth mx_dpop (ex_sub (ex_var 0) (ex_var 4)) (ax_cons (ex_var 1) (ax_nil))))
      (bx_one (sx_for rfl (ix_all (ex_var 2)) (gx_name 5 nd)
      (bx_one (sx_if (tx_w (wx_and (tx_cmp ox_lt (ex_var 4) (ex_var 5)) (wx_and1 (tx_cmp ox_ninA (ex_var 5) (ex_sub (ex_var 0) (ex_var 4))))))
      (bx_cons (sx_asg (ex_bl) (gx_sub (ex_sub (ex_var 0) (ex_var 4)) (ex_var 5)))
      (bx_cons (sx_asg (ex_bl) (gx_sub (ex_sub (ex_var 0) (ex_var 5)) (ex_var 4)))
      (bx_one (sx_expr (ex_meth mx_append (ex_var 3) (ax_cons (ex_tup (ax_cons (ex_var 4) (ax_cons (ex_var 5) (ax_nil)))) (ax_nil)))))))
      (bx_nil)))))))
      (bx_cons (sx_asg (ex_dict0 false false) (gx_sub (ex_var 0) (ex_var 1)))
      (bx_one (sx_ret (ex_var 3))))))
theorem h_eliminated (G : Gl T ad fo ct) : FnD T 1 (ad "eliminated") (fo "eliminated") ["near", "point"] m_eliminated := fnd_of G.f_eliminated.1 s_eliminated fun Wx => b_eliminated G (Nat.le_refl _) Wx
/-- fill_of -/
def N_fill_of : List Str := ["graph", "order", "near", "found", "point"]
noncomputable def l1_fill_of : Sn := fun ρ => sE (.bnd (getV ρ 3) fun a => chkM isL a (.bnd (.bnd (.bnd (.bnd (getV ρ 2) fun d => .bnd (.bnd (getV ρ 4) fun d => .bnd (.ret []) fun ds => .ret (d :: ds)) fun ds => .ret (d :: ds)) (m_eliminated)) fun d => .bnd (.ret []) fun ds => .ret (d :: ds)) fun ds => extD a ds)) ρ fun _ M => some (.nx ρ, M)
noncomputable def g_fill_of : Sn := sSeq (fun ρ => sE (.bnd (.bnd (getV ρ 0) fun d => .bnd (.bnd (getV ρ 1) fun d => .bnd (.ret []) fun ds => .ret (d :: ds)) fun ds => .ret (d :: ds)) (m_check_order)) ρ fun _ M => some (.nx ρ, M))
      (sSeq (fun ρ => sE (.bnd (.bnd (getV ρ 0) fun d => .bnd (.ret []) fun ds => .ret (d :: ds)) (m_neighbours)) ρ fun d M => some (.nx (ρ.set 2 (some d)), M))
      (sSeq (fun ρ => sE (.bnd (.ret []) newL) ρ fun d M => some (.nx (ρ.set 3 (some d)), M))
      (sSeq (sFor (fun ρ => .bnd (getV ρ 1) itD) (fun d ρ => .ret (ρ.set 4 (some d))) l1_fill_of)
      (fun ρ => sE (.bnd (.bnd (.bnd (.bnd (getV ρ 3) fun d => .bnd (.ret []) fun ds => .ret (d :: ds)) (arg1 (sortedD false))) fun d => .bnd (.ret []) fun ds => .ret (d :: ds)) (arg1 tupleD)) ρ fun d M => some (.ret d, M)))))
theorem s_fill_of : FnScope N_fill_of ["graph", "order"] (defScope (top 13)) := ⟨by kernel_rfl, by kernel_rfl, by kernel_rfl, nd_of (by kernel_rfl), by kernel_rfl, par_ok (by kernel_rfl), nofree_ok (by kernel_rfl)⟩
noncomputable def m_fill_of : List D → Mo D := fnD N_fill_of g_fill_of
theorem b_fill_of (G : Gl T ad fo ct) {k : Nat} (hk : 4 ≤ k) (Wx : WX) : BX (T.sc N_fill_of (defScope (top 13)) k Wx (fo "fill_of").code) (defBody (top 13)) g_fill_of := by
  have nd : (T.sc N_fill_of (defScope (top 13)) k Wx (fo "fill_of").code).N.Nodup := s_fill_of.nd
  have H_check_order := h_check_order (T := T) G
  have H_eliminated := h_eliminated (T := T) G
  have H_neighbours := h_neighbours (T := T) G
  unfold g_fill_of l1_fill_of
  exact bx_cons (sx_expr (ex_call H_check_order (show 4 ≤ k by omega) rfl G.f_check_order.2.1 G.f_check_order.2.2.1 G.f_check_order.2.2.2 (ax_cons (ex_var 0) (ax_cons (ex_var 1) (ax_nil))) (fun _ _ _ _ h => len_cons (n := 1) (len_cons (n := 0) ln0) _ _ _ h)))
      (bx_cons (sx_set 2 nd (ex_call H_neighbours (show 1 ≤ k by omega) rfl G.f_neighbours.2.1 G.f_neighbours.2.2.1 G.f_neighbours.2.2.2 (ax_cons (ex_var 0) (ax_nil)) (fun _ _ _ _ h => len_cons (n := 0) ln0 _ _ _ h)))
      (bx_cons (sx_set 3 nd (ex_lstM (ax_nil)))
      (bx_cons (sx_for rfl (ix_all (ex_var 1)) (gx_name 4 nd)
      (bx_one (sx_expr (ex_meth mx_extend (ex_var 3) (ax_cons (ex_call H_eliminated (show 1 ≤ k by omega) rfl G.f_eliminated.2.1 G.f_eliminated.2.2.1 G.f_eliminated.2.2.2 (ax_cons (ex_var 2) (ax_cons (ex_var 4) (ax_nil))) (fun _ _ _ _ h => len_cons (n := 1) (len_cons (n := 0) ln0) _ _ _ h)) (ax_nil))))))
      (bx_one (sx_ret (ex_callTy cx_tuple rfl G.n_tuple rfl (ax_cons (ex_callB (cx_sorted false) rfl G.n_sorted rfl (ax_cons (ex_var 3) (ax_nil))) (ax_nil))))))))
theorem h_fill_of (G : Gl T ad fo ct) : FnD T 5 (ad "fill_of") (fo "fill_of") ["graph", "order"] m_fill_of := fnd_of G.f_fill_of.1 s_fill_of fun Wx => b_fill_of G (Nat.le_refl _) Wx
/-- filled -/
def N_filled : List Str := ["graph", "order"]
noncomputable def g_filled : Sn := fun ρ => sE (.bnd (.bnd (.bnd (getV ρ 0) fun a => .bnd (.ret (.int 0)) fun b => subD' a b) fun d => .bnd (.bnd (.bnd (.bnd (.bnd (.bnd (.bnd (.bnd (.bnd (.bnd (getV ρ 0) fun a => .bnd (.ret (.int 1)) fun b => subD' a b) starD) fun l => .bnd (.bnd (.bnd (.bnd (.bnd (getV ρ 0) fun d => .bnd (.bnd (getV ρ 1) fun d => .bnd (.ret []) fun ds => .ret (d :: ds)) fun ds => .ret (d :: ds)) (m_fill_of)) starD) fun l => .bnd (.ret []) fun ds => .ret (l ++ ds)) fun ds => .ret (l ++ ds)) lstD) fun d => .bnd (.ret []) fun ds => .ret (d :: ds)) (arg1 (sortedD false))) fun d => .bnd (.ret []) fun ds => .ret (d :: ds)) (arg1 tupleD)) fun d => .bnd (.ret []) fun ds => .ret (d :: ds)) fun ds => .ret (d :: ds)) tupD) ρ fun d M => some (.ret d, M)
theorem s_filled : FnScope N_filled ["graph", "order"] (defScope (top 14)) := ⟨by kernel_rfl, by kernel_rfl, by kernel_rfl, nd_of (by kernel_rfl), by kernel_rfl, par_ok (by kernel_rfl), nofree_ok (by kernel_rfl)⟩
noncomputable def m_filled : List D → Mo D := fnD N_filled g_filled
theorem b_filled (G : Gl T ad fo ct) {k : Nat} (hk : 5 ≤ k) (Wx : WX) : BX (T.sc N_filled (defScope (top 14)) k Wx (fo "filled").code) (defBody (top 14)) g_filled := by
  have nd : (T.sc N_filled (defScope (top 14)) k Wx (fo "filled").code).N.Nodup := s_filled.nd
  have H_fill_of := h_fill_of (T := T) G
  unfold g_filled
  exact bx_one (sx_ret (ex_tup (ax_cons (ex_sub (ex_var 0) (ex_int)) (ax_cons (ex_callTy cx_tuple rfl G.n_tuple rfl (ax_cons (ex_callB (cx_sorted false) rfl G.n_sorted rfl (ax_cons (ex_lst (ax_star (ex_sub (ex_var 0) (ex_int)) (ax_star (ex_call H_fill_of (show 5 ≤ k by omega) rfl G.f_fill_of.2.1 G.f_fill_of.2.2.1 G.f_fill_of.2.2.2 (ax_cons (ex_var 0) (ax_cons (ex_var 1) (ax_nil))) (fun _ _ _ _ h => len_cons (n := 1) (len_cons (n := 0) ln0) _ _ _ h)) (ax_nil)))) (ax_nil))) (ax_nil))) (ax_nil)))))
theorem h_filled (G : Gl T ad fo ct) : FnD T 6 (ad "filled") (fo "filled") ["graph", "order"] m_filled := fnd_of G.f_filled.1 s_filled fun Wx => b_filled G (Nat.le_refl _) Wx
/-- later_of -/
def N_later_of : List Str := ["graph", "order", "one", "place", "near", "found", "point", "late"]
noncomputable def l1_later_of : Sn := sSeq (fun ρ => sE (.bnd (.bnd (.bnd (getV ρ 4) fun a => .bnd (getV ρ 6) fun b => subD' a b) itD) fun it => cmpD false stL [] .lst .lst (compL it.gd (turn1 (wipeR ρ [2]) (fun d ρ => .ret (ρ.set 2 (some d))) (fun ρ => .bnd (.bnd (.bnd (getV ρ 3) fun a => .bnd (getV ρ 2) fun b => subD' a b) fun a => .bnd (.bnd (getV ρ 3) fun a => .bnd (getV ρ 6) fun b => subD' a b) fun b => gtD a b) boolD) (one' fun ρ => getV ρ 2)) it.items)) ρ fun d M => some (.nx (ρ.set 7 (some d)), M))
      (fun ρ => sE (.bnd (getV ρ 5) fun a => chkM isL a (.bnd (.bnd (.bnd (.bnd (.bnd (getV ρ 7) fun b => .bnd (getV ρ 3) fun a => sortLD false a b) fun d => .bnd (.ret []) fun ds => .ret (d :: ds)) (arg1 tupleD)) fun d => .bnd (.ret []) fun ds => .ret (d :: ds)) fun ds => appendD a ds)) ρ fun _ M => some (.nx ρ, M))
noncomputable def g_later_of : Sn := sSeq (fun ρ => sE (.bnd (.bnd (getV ρ 1) fun d => .bnd (.ret []) fun ds => .ret (d :: ds)) (m_turned)) ρ fun d M => some (.nx (ρ.set 3 (some d)), M))
      (sSeq (fun ρ => sE (.bnd (.bnd (.bnd (.bnd (getV ρ 0) fun d => .bnd (.bnd (getV ρ 1) fun d => .bnd (.ret []) fun ds => .ret (d :: ds)) fun ds => .ret (d :: ds)) (m_filled)) fun d => .bnd (.ret []) fun ds => .ret (d :: ds)) (m_neighbours_c)) ρ fun d M => some (.nx (ρ.set 4 (some d)), M))
      (sSeq (fun ρ => sE (.bnd (.ret []) newL) ρ fun d M => some (.nx (ρ.set 5 (some d)), M))
      (sSeq (sFor (fun ρ => .bnd (.bnd (.bnd (getV ρ 0) fun a => .bnd (.ret (.int 0)) fun b => subD' a b) fun d => .bnd (.ret []) fun ds => .ret (d :: ds)) rngD1) (fun d ρ => .ret (ρ.set 6 (some d))) l1_later_of)
      (fun ρ => sE (.bnd (.bnd (getV ρ 5) fun d => .bnd (.ret []) fun ds => .ret (d :: ds)) (arg1 tupleD)) ρ fun d M => some (.ret d, M)))))
theorem s_later_of : FnScope N_later_of ["graph", "order"] (defScope (top 15)) := ⟨by kernel_rfl, by kernel_rfl, by kernel_rfl, nd_of (by kernel_rfl), by kernel_rfl, par_ok (by kernel_rfl), nofree_ok (by kernel_rfl)⟩
noncomputable def m_later_of : List D → Mo D := fnD N_later_of g_later_of
theorem b_later_of (G : Gl T ad fo ct) {k : Nat} (hk : 6 ≤ k) (Wx : WX) : BX (T.scL N_later_of (defScope (top 15)) k Wx (fo "later_of").code "later_of") (defBody (top 15)) g_later_of := by
  have nd : (T.sc N_later_of (defScope (top 15)) k Wx (fo "later_of").code).N.Nodup := s_later_of.nd
  obtain ⟨TBl, hcodel, hPl⟩ := G.l_later_of
  have H_filled := h_filled (T := T) G
  have H_neighbours := h_neighbours (T := T) G
  have H_neighbours_c := h_neighbours_c (T := T) G
  have H_turned := h_turned (T := T) G
  unfold g_later_of l1_later_of
  exact bx_cons (sx_set 3 nd (ex_call H_turned (show 1 ≤ k by omega) rfl G.f_turned.2.1 G.f_turned.2.2.1 G.f_turned.2.2.2 (ax_cons (ex_var 1) (ax_nil)) (fun _ _ _ _ h => len_cons (n := 0) ln0 _ _ _ h)))
      (bx_cons (sx_set 4 nd (ex_call H_neighbours_c (show 1 ≤ k by omega) rfl G.f_neighbours.2.1 G.f_neighbours.2.2.1 G.f_neighbours.2.2.2 (ax_cons (ex_call H_filled (show 6 ≤ k by omega) rfl G.f_filled.2.1 G.f_filled.2.2.1 G.f_filled.2.2.2 (ax_cons (ex_var 0) (ax_cons (ex_var 1) (ax_nil))) (fun _ _ _ _ h => len_cons (n := 1) (len_cons (n := 0) ln0) _ _ _ h)) (ax_nil)) (fun _ _ _ _ h => len_cons (n := 0) ln0 _ _ _ h)))
      (bx_cons (sx_set 5 nd (ex_lstM (ax_nil)))
      (bx_cons (sx_for rfl (ix_range1 rfl G.n_range (ax_cons (ex_sub (ex_var 0) (ex_int)) (ax_nil))) (gx_name 6 nd)
      (bx_cons (sx_setC 7 (lx_l1 false [("one", 2)]  nd (blk_ok (by kernel_rfl))  (ix_all (ex_sub (ex_var 4) (ex_var 6))) (gv_name 2 nd) (txs_one (tx_cmp ox_gt (ex_sub (ex_var 3) (ex_var 2)) (ex_sub (ex_var 3) (ex_var 6))))  (ex_var 2)) (hs := fun X c => sw_lc c rfl rfl (by kernel_rfl)))
      (bx_one (sx_expr (ex_meth mx_append (ex_var 5) (ax_cons (ex_callTy cx_tuple rfl G.n_tuple rfl (ax_cons (ex_sortLB false (i := 3) rfl G.n_sorted TBl (congrArg some hcodel) rfl rfl hPl rfl (by first | exact Or.inl rfl | exact Or.inr rfl) (by kernel_rfl) (fun _ => rfl) (fun _ _ _ _ _ => rfl) (ex_var 7)) (ax_nil))) (ax_nil)))))))
      (bx_one (sx_ret (ex_callTy cx_tuple rfl G.n_tuple rfl (ax_cons (ex_var 5) (ax_nil))))))))
theorem h_later_of (G : Gl T ad fo ct) : FnD T 7 (ad "later_of") (fo "later_of") ["graph", "order"] m_later_of := fnd_ofL G.f_later_of.1 s_later_of fun Wx => b_later_of G (Nat.le_refl _) Wx
/-- are_tasks -/
def N_are_tasks : List Str := ["value", "number", "row"]
noncomputable def l1_are_tasks : Sn := sSeq (sIf (fun ρ => .bnd (.bnd (.bnd (.bnd (.bnd (getV ρ 2) fun d => .bnd (.bnd (.ret (.ty "tuple")) fun d => .bnd (.ret []) fun ds => .ret (d :: ds)) fun ds => .ret (d :: ds)) (arg2 isiD)) boolD) fun b => .ret (!b)) fun z => cond z (.ret true) (.bnd (.bnd (.bnd (.bnd (getV ρ 2) fun d => .bnd (.ret []) fun ds => .ret (d :: ds)) (arg1 lenD)) fun a => .bnd (.ret (.int 3)) fun b => neD a b) boolD))
      (fun ρ => sE (.ret (.bl false)) ρ fun d M => some (.ret d, M))
      (sNext))
      (sSeq (sIf (fun ρ => .bnd (.bnd (.bnd (.bnd (getV ρ 2) fun a => .bnd (.ret (.int 0)) fun b => subD' a b) fun a => .bnd (.ret .non) fun b => isnD a b) boolD) fun z => cond z (.bnd (.bnd (.bnd (.bnd (.bnd (getV ρ 2) fun a => .bnd (.ret (.int 0)) fun b => subD' a b) fun d => .bnd (.bnd (.bnd (getV ρ 1) fun a => .bnd (.ret (.int 1)) fun b => addD a b) fun d => .bnd (.bnd (.bnd (.bnd (.bnd (getV ρ 0) fun d => .bnd (.ret []) fun ds => .ret (d :: ds)) (arg1 lenD)) fun a => .bnd (.ret (.int 1)) fun b => subD a b) fun d => .bnd (.ret []) fun ds => .ret (d :: ds)) fun ds => .ret (d :: ds)) fun ds => .ret (d :: ds)) (m_is_number)) boolD) fun b => .ret (!b)) (.ret false))
      (fun ρ => sE (.ret (.bl false)) ρ fun d M => some (.ret d, M))
      (sNext))
      (sIf (fun ρ => .bnd (.bnd (.bnd (.bnd (.bnd (.bnd (getV ρ 2) fun a => .bnd (.ret (.int 1)) fun b => subD' a b) fun d => .bnd (.bnd (.ret (.int 0)) fun d => .bnd (.bnd (.ret (.int (1000000))) fun d => .bnd (.ret []) fun ds => .ret (d :: ds)) fun ds => .ret (d :: ds)) fun ds => .ret (d :: ds)) (m_is_number)) boolD) fun b => .ret (!b)) fun z => cond z (.ret true) (.bnd (.bnd (.bnd (.bnd (.bnd (getV ρ 2) fun a => .bnd (.ret (.int 2)) fun b => subD' a b) fun d => .bnd (.bnd (.ret (.int 0)) fun d => .bnd (.bnd (.bnd (getV ρ 2) fun a => .bnd (.ret (.int 1)) fun b => subD' a b) fun d => .bnd (.ret []) fun ds => .ret (d :: ds)) fun ds => .ret (d :: ds)) fun ds => .ret (d :: ds)) (m_is_number)) boolD) fun b => .ret (!b)))
      (fun ρ => sE (.ret (.bl false)) ρ fun d M => some (.ret d, M))
      (sNext)))
noncomputable def g_are_tasks : Sn := sSeq (sIf (fun ρ => .bnd (.bnd (.bnd (.bnd (.bnd (getV ρ 0) fun d => .bnd (.bnd (.ret (.ty "tuple")) fun d => .bnd (.ret []) fun ds => .ret (d :: ds)) fun ds => .ret (d :: ds)) (arg2 isiD)) boolD) fun b => .ret (!b)) fun z => cond z (.ret true) (.bnd (.bnd (.bnd (.bnd (getV ρ 0) fun d => .bnd (.ret []) fun ds => .ret (d :: ds)) (arg1 lenD)) fun a => .bnd (.ret (.int (60))) fun b => gtD a b) boolD))
      (fun ρ => sE (.ret (.bl false)) ρ fun d M => some (.ret d, M))
      (sNext))
      (sSeq (sFor (fun ρ => .bnd (.bnd (getV ρ 0) fun d => .bnd (.ret []) fun ds => .ret (d :: ds)) enumD) (fun d ρ => .bnd (itemsT 2 d) fun ds => (gConsD (fun d ρ => .ret (ρ.set 1 (some d))) (gConsD (fun d ρ => .ret (ρ.set 2 (some d))) gNilD)) ds ρ) l1_are_tasks)
      (fun ρ => sE (.ret (.bl true)) ρ fun d M => some (.ret d, M)))
theorem s_are_tasks : FnScope N_are_tasks ["value"] (defScope (top 19)) := ⟨by kernel_rfl, by kernel_rfl, by kernel_rfl, nd_of (by kernel_rfl), by kernel_rfl, par_ok (by kernel_rfl), nofree_ok (by kernel_rfl)⟩
noncomputable def m_are_tasks : List D → Mo D := fnD N_are_tasks g_are_tasks
theorem b_are_tasks (G : Gl T ad fo ct) {k : Nat} (hk : 1 ≤ k) (Wx : WX) : BX (T.sc N_are_tasks (defScope (top 19)) k Wx (fo "are_tasks").code) (defBody (top 19)) g_are_tasks := by
  have nd : (T.sc N_are_tasks (defScope (top 19)) k Wx (fo "are_tasks").code).N.Nodup := s_are_tasks.nd
  have H_is_number := h_is_number (T := T) G
  unfold g_are_tasks l1_are_tasks
  exact bx_cons (sx_if (tx_w (wx_or (tx_not (tx_bool (ex_callB cx_isi rfl G.n_isinstance rfl (ax_cons (ex_var 0) (ax_cons (ex_ty rfl G.n_tuple rfl) (ax_nil)))))) (wx_or1 (tx_cmp ox_gt (ex_callB cx_len rfl G.n_len rfl (ax_cons (ex_var 0) (ax_nil))) (ex_glob (v := .int _) rfl G.c_MOST_TASKS.choose_spec ⟨_, rfl⟩ (fun _ => .int _))))))
      (bx_one (sx_ret (ex_bl)))
      (bx_nil))
      (bx_cons (sx_for rfl (ix_enum rfl G.n_enumerate (ax_cons (ex_var 0) (ax_nil))) (gx_tup (n := 2) (gxs_cons (gx_name 1 nd) (gxs_cons (gx_name 2 nd) (gxs_nil))))
      (bx_cons (sx_if (tx_w (wx_or (tx_not (tx_bool (ex_callB cx_isi rfl G.n_isinstance rfl (ax_cons (ex_var 2) (ax_cons (ex_ty rfl G.n_tuple rfl) (ax_nil)))))) (wx_or1 (tx_cmp ox_ne (ex_callB cx_len rfl G.n_len rfl (ax_cons (ex_var 2) (ax_nil))) (ex_int)))))
      (bx_one (sx_ret (ex_bl)))
      (bx_nil))
      (bx_cons (sx_if (tx_w (wx_and (tx_cmp ox_isn (ex_sub (ex_var 2) (ex_int)) (ex_non)) (wx_and1 (tx_not (tx_bool (ex_call H_is_number (show 1 ≤ k by omega) rfl G.f_is_number.2.1 G.f_is_number.2.2.1 G.f_is_number.2.2.2 (ax_cons (ex_sub (ex_var 2) (ex_int)) (ax_cons (ex_op ox_add (ex_var 1) (ex_int)) (ax_cons (ex_op ox_sub (ex_callB cx_len rfl G.n_len rfl (ax_cons (ex_var 0) (ax_nil))) (ex_int)) (ax_nil)))) (fun _ _ _ _ h => len_cons (n := 2) (len_cons (n := 1) (len_cons (n := 0) ln0)) _ _ _ h)))))))
      (bx_one (sx_ret (ex_bl)))
      (bx_nil))
      (bx_one (sx_if (tx_w (wx_or (tx_not (tx_bool (ex_call H_is_number (show 1 ≤ k by omega) rfl G.f_is_number.2.1 G.f_is_number.2.2.1 G.f_is_number.2.2.2 (ax_cons (ex_sub (ex_var 2) (ex_int)) (ax_cons (ex_int) (ax_cons (ex_glob (v := .int _) rfl G.c_MOST_CELLS.choose_spec ⟨_, rfl⟩ (fun _ => .int _)) (ax_nil)))) (fun _ _ _ _ h => len_cons (n := 2) (len_cons (n := 1) (len_cons (n := 0) ln0)) _ _ _ h)))) (wx_or1 (tx_not (tx_bool (ex_call H_is_number (show 1 ≤ k by omega) rfl G.f_is_number.2.1 G.f_is_number.2.2.1 G.f_is_number.2.2.2 (ax_cons (ex_sub (ex_var 2) (ex_int)) (ax_cons (ex_int) (ax_cons (ex_sub (ex_var 2) (ex_int)) (ax_nil)))) (fun _ _ _ _ h => len_cons (n := 2) (len_cons (n := 1) (len_cons (n := 0) ln0)) _ _ _ h)))))))
      (bx_one (sx_ret (ex_bl)))
      (bx_nil))))))
      (bx_one (sx_ret (ex_bl))))
theorem h_are_tasks (G : Gl T ad fo ct) : FnD T 2 (ad "are_tasks") (fo "are_tasks") ["value"] m_are_tasks := fnd_of G.f_are_tasks.1 s_are_tasks fun Wx => b_are_tasks G (Nat.le_refl _) Wx
/-- children_in -/
def N_children_in : List Str := ["tasks", "_", "found", "number", "parent"]
noncomputable def l1_children_in : Sn := sIf (fun ρ => .bnd (.bnd (getV ρ 4) fun a => .bnd (.ret .non) fun b => isnD a b) boolD)
      (fun ρ => sE (.bnd (.bnd (.bnd (.bnd (getV ρ 2) fun a => .bnd (getV ρ 4) fun b => subD' a b) starD) fun l => .bnd (.bnd (getV ρ 3) fun d => .bnd (.ret []) fun ds => .ret (d :: ds)) fun ds => .ret (l ++ ds)) tupD) ρ fun d => s0 (.bnd (getV ρ 2) fun a => .bnd (getV ρ 4) fun b => storeM a b d ρ))
      (sNext)
noncomputable def g_children_in : Sn := sSeq (fun ρ => sE (.bnd (.bnd (getV ρ 0) itD) fun it => cmpD true stL [] .lst .lst (compL it.gd (turn1 (wipeR ρ [1]) (fun d ρ => .ret (ρ.set 1 (some d))) (fun _ => .ret true) (one' fun ρ => .bnd (.ret []) tupD)) it.items)) ρ fun d M => some (.nx (ρ.set 2 (some d)), M))
      (sSeq (sFor (fun ρ => .bnd (.bnd (getV ρ 0) fun d => .bnd (.ret []) fun ds => .ret (d :: ds)) enumD) (fun d ρ => .bnd (itemsT 2 d) fun ds => (gConsD (fun d ρ => .ret (ρ.set 3 (some d))) (gConsD (fun d ρ => .bnd (itemsT 3 d) fun ds => (gConsD (fun d ρ => .ret (ρ.set 4 (some d))) (gConsD (fun d ρ => .ret (ρ.set 1 (some d))) (gConsD (fun d ρ => .ret (ρ.set 1 (some d))) gNilD))) ds ρ) gNilD)) ds ρ) l1_children_in)
      (fun ρ => sE (.bnd (.bnd (getV ρ 2) fun d => .bnd (.ret []) fun ds => .ret (d :: ds)) (arg1 tupleD)) ρ fun d M => some (.ret d, M)))
theorem s_children_in : FnScope N_children_in ["tasks"] (defScope (top 20)) := ⟨by kernel_rfl, by kernel_rfl, by kernel_rfl, nd_of (by kernel_rfl), by kernel_rfl, par_ok (by kernel_rfl), nofree_ok (by kernel_rfl)⟩
noncomputable def m_children_in : List D → Mo D := fnD N_children_in g_children_in
theorem b_children_in (G : Gl T ad fo ct) {k : Nat} (hk : 0 ≤ k) (Wx : WX) : BX (T.sc N_children_in (defScope (top 20)) k Wx (fo "children_in").code) (defBody (top 20)) g_children_in := by
  have nd : (T.sc N_children_in (defScope (top 20)) k Wx (fo "children_in").code).N.Nodup := s_children_in.nd
  unfold g_children_in l1_children_in
  exact bx_cons (sx_setC 2 (lx_l1 true [("_", 1)]  nd (blk_ok (by kernel_rfl))  (ix_all (ex_var 0)) (gv_name 1 nd) (txs_nil)  (ex_tup (ax_nil))) (hs := fun X c => sw_lc c rfl rfl (by kernel_rfl)))
      (bx_cons (sx_for rfl (ix_enum rfl G.n_enumerate (ax_cons (ex_var 0) (ax_nil))) (gx_tup (n := 2) (gxs_cons (gx_name 3 nd) (gxs_cons (gx_tup (n := 3) (gxs_cons (gx_name 4 nd) (gxs_cons (gx_name 1 nd) (gxs_cons (gx_name 1 nd) (gxs_nil))))) (gxs_nil))))
      (bx_one (sx_if (tx_cmp ox_isn (ex_var 4) (ex_non))
      (bx_one (sx_asg (ex_tup (ax_star (ex_sub (ex_var 2) (ex_var 4)) (ax_cons (ex_var 3) (ax_nil)))) (gx_sub (ex_var 2) (ex_var 4))))
      (bx_nil))))
      (bx_one (sx_ret (ex_callTy cx_tuple rfl G.n_tuple rfl (ax_cons (ex_var 2) (ax_nil))))))
theorem h_children_in (G : Gl T ad fo ct) : FnD T 1 (ad "children_in") (fo "children_in") ["tasks"] m_children_in := fnd_of G.f_children_in.1 s_children_in fun Wx => b_children_in G (Nat.le_refl _) Wx
/-- tops_in -/
def N_tops_in : List Str := ["tasks", "number", "row"]
noncomputable def g_tops_in : Sn := fun ρ => sE (.bnd (.bnd (.bnd (.bnd (.bnd (getV ρ 0) fun d => .bnd (.ret []) fun ds => .ret (d :: ds)) enumD) fun it => cmpD false stL [] .lst .lst (compL it.gd (turn1 (wipeR ρ [1, 2]) (fun d ρ => .bnd (itemsT 2 d) fun ds => (gConsD (fun d ρ => .ret (ρ.set 1 (some d))) (gConsD (fun d ρ => .ret (ρ.set 2 (some d))) gNilD)) ds ρ) (fun ρ => .bnd (.bnd (.bnd (getV ρ 2) fun a => .bnd (.ret (.int 0)) fun b => subD' a b) fun a => .bnd (.ret .non) fun b => isD a b) boolD) (one' fun ρ => getV ρ 1)) it.items)) fun d => .bnd (.ret []) fun ds => .ret (d :: ds)) (arg1 tupleD)) ρ fun d M => some (.ret d, M)
theorem s_tops_in : FnScope N_tops_in ["tasks"] (defScope (top 21)) := ⟨by kernel_rfl, by kernel_rfl, by kernel_rfl, nd_of (by kernel_rfl), by kernel_rfl, par_ok (by kernel_rfl), nofree_ok (by kernel_rfl)⟩
noncomputable def m_tops_in : List D → Mo D := fnD N_tops_in g_tops_in
theorem b_tops_in (G : Gl T ad fo ct) {k : Nat} (hk : 0 ≤ k) (Wx : WX) : BX (T.sc N_tops_in (defScope (top 21)) k Wx (fo "tops_in").code) (defBody (top 21)) g_tops_in := by
  have nd : (T.sc N_tops_in (defScope (top 21)) k Wx (fo "tops_in").code).N.Nodup := s_tops_in.nd
  unfold g_tops_in
  exact bx_one (sx_ret (ex_callTy cx_tuple rfl G.n_tuple rfl (ax_cons (ex_lx (lx_l1 false [("number", 1), ("row", 2)]  nd (blk_ok (by kernel_rfl))  (ix_enum rfl G.n_enumerate (ax_cons (ex_var 0) (ax_nil))) (gv_tup (n := 2) (gvs_cons (gv_name 1 nd) (gvs_cons (gv_name 2 nd) (gvs_nil)))) (txs_one (tx_cmp ox_is (ex_sub (ex_var 2) (ex_int)) (ex_non)))  (ex_var 1))) (ax_nil))))
theorem h_tops_in (G : Gl T ad fo ct) : FnD T 1 (ad "tops_in") (fo "tops_in") ["tasks"] m_tops_in := fnd_of G.f_tops_in.1 s_tops_in fun Wx => b_tops_in G (Nat.le_refl _) Wx
/-- tasks_of -/
def N_tasks_of : List Str := ["graph", "order", "number", "point", "later", "place", "found", "many", "parent"]
noncomputable def l1_tasks_of : Sn := sSeq (fun ρ => sE (.bnd (.bnd (.bnd (getV ρ 4) fun a => .bnd (getV ρ 3) fun b => subD' a b) fun d => .bnd (.ret []) fun ds => .ret (d :: ds)) (arg1 lenD)) ρ fun d M => some (.nx (ρ.set 7 (some d)), M))
      (sSeq (fun ρ => sE (.bnd (.bnd (.bnd (getV ρ 7) fun a => .bnd (.ret (.int 0)) fun b => gtD a b) boolD) fun z => cond z (.bnd (getV ρ 5) fun a => .bnd (.bnd (.bnd (getV ρ 4) fun a => .bnd (getV ρ 3) fun b => subD' a b) fun a => .bnd (.ret (.int 0)) fun b => subD' a b) fun b => subD' a b) (.ret .non)) ρ fun d M => some (.nx (ρ.set 8 (some d)), M))
      (fun ρ => sE (.bnd (getV ρ 6) fun a => chkM isL a (.bnd (.bnd (.bnd (.bnd (getV ρ 8) fun d => .bnd (.bnd (.bnd (.bnd (getV ρ 7) fun a => .bnd (.ret (.int 1)) fun b => addD a b) fun a => .bnd (.bnd (getV ρ 7) fun a => .bnd (.ret (.int 1)) fun b => addD a b) fun b => mulD a b) fun d => .bnd (.bnd (.bnd (getV ρ 7) fun a => .bnd (getV ρ 7) fun b => mulD a b) fun d => .bnd (.ret []) fun ds => .ret (d :: ds)) fun ds => .ret (d :: ds)) fun ds => .ret (d :: ds)) tupD) fun d => .bnd (.ret []) fun ds => .ret (d :: ds)) fun ds => appendD a ds)) ρ fun _ M => some (.nx ρ, M)))
noncomputable def g_tasks_of : Sn := sSeq (fun ρ => sE (.bnd (.bnd (getV ρ 0) fun d => .bnd (.bnd (getV ρ 1) fun d => .bnd (.ret []) fun ds => .ret (d :: ds)) fun ds => .ret (d :: ds)) (m_later_of)) ρ fun d M => some (.nx (ρ.set 4 (some d)), M))
      (sSeq (fun ρ => sE (.bnd (.bnd (.bnd (getV ρ 1) fun d => .bnd (.ret []) fun ds => .ret (d :: ds)) enumD) fun it => cmpD false (stD false) [] (.dct false) (.dct false) (compL it.gd (turn1 (wipeR ρ [2, 3]) (fun d ρ => .bnd (itemsT 2 d) fun ds => (gConsD (fun d ρ => .ret (ρ.set 2 (some d))) (gConsD (fun d ρ => .ret (ρ.set 3 (some d))) gNilD)) ds ρ) (fun _ => .ret true) (two' (fun ρ => getV ρ 3) (fun ρ => getV ρ 2))) it.items)) ρ fun d M => some (.nx (ρ.set 5 (some d)), M))
      (sSeq (fun ρ => sE (.bnd (.ret []) newL) ρ fun d M => some (.nx (ρ.set 6 (some d)), M))
      (sSeq (sFor (fun ρ => .bnd (getV ρ 1) itD) (fun d ρ => .ret (ρ.set 3 (some d))) l1_tasks_of)
      (fun ρ => sE (.bnd (.bnd (getV ρ 6) fun d => .bnd (.ret []) fun ds => .ret (d :: ds)) (arg1 tupleD)) ρ fun d M => some (.ret d, M)))))
theorem s_tasks_of : FnScope N_tasks_of ["graph", "order"] (defScope (top 22)) := ⟨by kernel_rfl, by kernel_rfl, by kernel_rfl, nd_of (by kernel_rfl), by kernel_rfl, par_ok (by kernel_rfl), nofree_ok (by kernel_rfl)⟩
noncomputable def m_tasks_of : List D → Mo D := fnD N_tasks_of g_tasks_of
theorem b_tasks_of (G : Gl T ad fo ct) {k : Nat} (hk : 7 ≤ k) (Wx : WX) : BX (T.sc N_tasks_of (defScope (top 22)) k Wx (fo "tasks_of").code) (defBody (top 22)) g_tasks_of := by
  have nd : (T.sc N_tasks_of (defScope (top 22)) k Wx (fo "tasks_of").code).N.Nodup := s_tasks_of.nd
  have H_later_of := h_later_of (T := T) G
  unfold g_tasks_of l1_tasks_of
  exact bx_cons (sx_set 4 nd (ex_call H_later_of (show 7 ≤ k by omega) rfl G.f_later_of.2.1 G.f_later_of.2.2.1 G.f_later_of.2.2.2 (ax_cons (ex_var 0) (ax_cons (ex_var 1) (ax_nil))) (fun _ _ _ _ h => len_cons (n := 1) (len_cons (n := 0) ln0) _ _ _ h)))
      (bx_cons (sx_setC 5 (lx_d1 false false [("number", 2), ("point", 3)]  nd (blk_ok (by kernel_rfl))  (ix_enum rfl G.n_enumerate (ax_cons (ex_var 1) (ax_nil))) (gv_tup (n := 2) (gvs_cons (gv_name 2 nd) (gvs_cons (gv_name 3 nd) (gvs_nil)))) (txs_nil)  (ex_var 3) (ex_var 2)) (hs := fun X c => sw_d c rfl rfl (by kernel_rfl)))
      (bx_cons (sx_set 6 nd (ex_lstM (ax_nil)))
      (bx_cons (sx_for rfl (ix_all (ex_var 1)) (gx_name 3 nd)
      (bx_cons (sx_set 7 nd (ex_callB cx_len rfl G.n_len rfl (ax_cons (ex_sub (ex_var 4) (ex_var 3)) (ax_nil))))
      (bx_cons (sx_set 8 nd (ex_if (tx_cmp ox_gt (ex_var 7) (ex_int)) (ex_sub (ex_var 5) (ex_sub (ex_sub (ex_var 4) (ex_var 3)) (ex_int))) (ex_non)))
      (bx_one (sx_expr (ex_meth mx_append (ex_var 6) (ax_cons (ex_tup (ax_cons (ex_var 8) (ax_cons (ex_op ox_mul (ex_op ox_add (ex_var 7) (ex_int)) (ex_op ox_add (ex_var 7) (ex_int))) (ax_cons (ex_op ox_mul (ex_var 7) (ex_var 7)) (ax_nil))))) (ax_nil))))))))
      (bx_one (sx_ret (ex_callTy cx_tuple rfl G.n_tuple rfl (ax_cons (ex_var 6) (ax_nil))))))))
theorem h_tasks_of (G : Gl T ad fo ct) : FnD T 8 (ad "tasks_of") (fo "tasks_of") ["graph", "order"] m_tasks_of := fnd_of G.f_tasks_of.1 s_tasks_of fun Wx => b_tasks_of G (Nat.le_refl _) Wx
/-- _law_draws -/
def N__law_draws : List Str := ["script", "draws", "piece", "number", "first", "k", "seed"]
noncomputable def l1__law_draws : Sn := sIf (fun ρ => .bnd (.bnd (getV ρ 3) fun a => .bnd (.ret (.int 0)) fun b => gtD a b) boolD)
      (sSeq (fun ρ => sE (.bnd (getV ρ 1) fun a => chkM isL a (.bnd (.bnd (.bnd (.bnd (.bnd (getV ρ 3) fun d => .bnd (.ret []) fun ds => .ret (d :: ds)) (arg1 intD)) fun a => .bnd (.ret (.int 997)) fun b => modD a b) fun d => .bnd (.ret []) fun ds => .ret (d :: ds)) fun ds => appendD a ds)) ρ fun _ M => some (.nx ρ, M))
      (fun ρ => sE (.bnd (getV ρ 3) fun a => .bnd (.ret (.int 997)) fun b => fdivD a b) ρ fun d M => some (.nx (ρ.set 3 (some d)), M)))
      (sNext)
noncomputable def l2__law_draws : Sn := sSeq (fun ρ => sE (.bnd (.bnd (getV ρ 2) fun d => .bnd (.ret []) fun ds => .ret (d :: ds)) (arg1 absD)) ρ fun d M => some (.nx (ρ.set 3 (some d)), M))
      (sSeq (sIf (fun ρ => .bnd (.bnd (getV ρ 3) fun a => .bnd (.bnd (.ret (.int 10)) fun a => .bnd (.ret (.int 18)) fun b => powD a b) fun b => ltD a b) boolD)
      (sSeq (fun ρ => sE (.bnd (.bnd (.bnd (.bnd (.bnd (getV ρ 3) fun a => .bnd (.ret (.int 48271)) fun b => mulD a b) fun a => .bnd (.ret (.int 11)) fun b => addD a b) fun d => .bnd (.ret []) fun ds => .ret (d :: ds)) (arg1 intD)) fun a => .bnd (.ret (.int 2147483647)) fun b => modD a b) ρ fun d M => some (.nx (ρ.set 4 (some d)), M))
      (sSeq (fun ρ => sE (.bnd (getV ρ 1) fun a => chkM isL a (.bnd (.bnd (.bnd (.bnd (.bnd (.bnd (.bnd (getV ρ 4) fun a => .bnd (.ret (.int 69621)) fun b => mulD a b) fun a => .bnd (getV ρ 3) fun b => addD a b) fun d => .bnd (.ret []) fun ds => .ret (d :: ds)) (arg1 intD)) fun a => .bnd (.ret (.int 2147483629)) fun b => modD a b) fun d => .bnd (.ret []) fun ds => .ret (d :: ds)) fun ds => appendD a ds)) ρ fun _ M => some (.nx ρ, M))
      (sSeq (fun ρ => sE (.bnd (getV ρ 1) fun a => chkM isL a (.bnd (.bnd (.bnd (.bnd (.bnd (.bnd (getV ρ 4) fun a => .bnd (.bnd (getV ρ 3) fun a => .bnd (.ret (.int 7)) fun b => fdivD a b) fun b => addD a b) fun d => .bnd (.ret []) fun ds => .ret (d :: ds)) (arg1 intD)) fun a => .bnd (.ret (.int 1000003)) fun b => modD a b) fun d => .bnd (.ret []) fun ds => .ret (d :: ds)) fun ds => appendD a ds)) ρ fun _ M => some (.nx ρ, M))
      (fun ρ => sE (.ret (.int 0)) ρ fun d M => some (.nx (ρ.set 3 (some d)), M)))))
      (sNext))
      (sFor (fun ρ => .bnd (.bnd (.ret (.int 60)) fun d => .bnd (.ret []) fun ds => .ret (d :: ds)) rngD1) (fun d ρ => .ret (ρ.set 5 (some d))) l1__law_draws))
noncomputable def l3__law_draws : Sn := sSeq (fun ρ => sE (.bnd (.bnd (.bnd (.bnd (.bnd (getV ρ 6) fun a => .bnd (.ret (.int 48271)) fun b => mulD a b) fun a => .bnd (.ret (.int 69621)) fun b => addD a b) fun d => .bnd (.ret []) fun ds => .ret (d :: ds)) (arg1 intD)) fun a => .bnd (.ret (.int 2147483647)) fun b => modD a b) ρ fun d M => some (.nx (ρ.set 6 (some d)), M))
      (fun ρ => sE (.bnd (getV ρ 1) fun a => chkM isL a (.bnd (.bnd (.bnd (getV ρ 6) fun a => .bnd (.ret (.int 5)) fun b => fdivD a b) fun d => .bnd (.ret []) fun ds => .ret (d :: ds)) fun ds => appendD a ds)) ρ fun _ M => some (.nx ρ, M))
noncomputable def g__law_draws : Sn := sSeq (fun ρ => sE (.bnd (.ret []) newL) ρ fun d M => some (.nx (ρ.set 1 (some d)), M))
      (sSeq (sFor (fun ρ => .bnd (getV ρ 0) itD) (fun d ρ => .ret (ρ.set 2 (some d))) l2__law_draws)
      (sSeq (fun ρ => sE (.ret (.int 1)) ρ fun d M => some (.nx (ρ.set 6 (some d)), M))
      (sSeq (sIf (fun ρ => .bnd (.bnd (.bnd (.bnd (getV ρ 0) fun d => .bnd (.ret []) fun ds => .ret (d :: ds)) (arg1 lenD)) fun a => .bnd (.ret (.int 0)) fun b => gtD a b) boolD)
      (fun ρ => sE (.bnd (.ret (.int 1)) fun a => .bnd (.bnd (.bnd (.bnd (getV ρ 0) fun a => .bnd (.ret (.int 0)) fun b => subD' a b) fun d => .bnd (.ret []) fun ds => .ret (d :: ds)) (arg1 absD)) fun b => addD a b) ρ fun d M => some (.nx (ρ.set 6 (some d)), M))
      (sNext))
      (sSeq (sFor (fun ρ => .bnd (.bnd (.ret (.int 900)) fun d => .bnd (.ret []) fun ds => .ret (d :: ds)) rngD1) (fun d ρ => .ret (ρ.set 5 (some d))) l3__law_draws)
      (fun ρ => sE (.bnd (getV ρ 1) (lrevD true)) ρ fun d M => some (.ret d, M))))))
theorem s__law_draws : FnScope N__law_draws ["script"] (defScope (top 24)) := ⟨by kernel_rfl, by kernel_rfl, by kernel_rfl, nd_of (by kernel_rfl), by kernel_rfl, par_ok (by kernel_rfl), nofree_ok (by kernel_rfl)⟩
noncomputable def m__law_draws : List D → Mo D := fnO N__law_draws g__law_draws
theorem b__law_draws (G : Gl T ad fo ct) {k : Nat} (hk : 0 ≤ k) (Wx : WX) : BX (T.sc N__law_draws (defScope (top 24)) k Wx (fo "_law_draws").code) (defBody (top 24)) g__law_draws := by
  have nd : (T.sc N__law_draws (defScope (top 24)) k Wx (fo "_law_draws").code).N.Nodup := s__law_draws.nd
  unfold g__law_draws l3__law_draws l2__law_draws l1__law_draws
  exact bx_cons (sx_set 1 nd (ex_lstM (ax_nil)))
      (bx_cons (sx_for rfl (ix_all (ex_var 0)) (gx_name 2 nd)
      (bx_cons (sx_set 3 nd (ex_callB cx_abs rfl G.n_abs rfl (ax_cons (ex_var 2) (ax_nil))))
      (bx_cons (sx_if (tx_cmp ox_lt (ex_var 3) (ex_op ox_pow (ex_int) (ex_int)))
      (bx_cons (sx_set 4 nd (ex_op ox_mod (ex_callTy cx_int rfl G.n_int rfl (ax_cons (ex_op ox_add (ex_op ox_mul (ex_var 3) (ex_int)) (ex_int)) (ax_nil))) (ex_int)))
      (bx_cons (sx_expr (ex_meth mx_append (ex_var 1) (ax_cons (ex_op ox_mod (ex_callTy cx_int rfl G.n_int rfl (ax_cons (ex_op ox_add (ex_op ox_mul (ex_var 4) (ex_int)) (ex_var 3)) (ax_nil))) (ex_int)) (ax_nil))))
      (bx_cons (sx_expr (ex_meth mx_append (ex_var 1) (ax_cons (ex_op ox_mod (ex_callTy cx_int rfl G.n_int rfl (ax_cons (ex_op ox_add (ex_var 4) (ex_op ox_fdiv (ex_var 3) (ex_int))) (ax_nil))) (ex_int)) (ax_nil))))
      (bx_one (sx_set 3 nd (ex_int))))))
      (bx_nil))
      (bx_one (sx_for rfl (ix_range1 rfl G.n_range (ax_cons (ex_int) (ax_nil))) (gx_name 5 nd)
      (bx_one (sx_if (tx_cmp ox_gt (ex_var 3) (ex_int))
      (bx_cons (sx_expr (ex_meth mx_append (ex_var 1) (ax_cons (ex_op ox_mod (ex_callTy cx_int rfl G.n_int rfl (ax_cons (ex_var 3) (ax_nil))) (ex_int)) (ax_nil))))
      (bx_one (sx_set 3 nd (ex_op ox_fdiv (ex_var 3) (ex_int)))))
      (bx_nil))))))))
      (bx_cons (sx_set 6 nd (ex_int))
      (bx_cons (sx_if (tx_cmp ox_gt (ex_callB cx_len rfl G.n_len rfl (ax_cons (ex_var 0) (ax_nil))) (ex_int))
      (bx_one (sx_set 6 nd (ex_op ox_add (ex_int) (ex_callB cx_abs rfl G.n_abs rfl (ax_cons (ex_sub (ex_var 0) (ex_int)) (ax_nil))))))
      (bx_nil))
      (bx_cons (sx_for rfl (ix_range1 rfl G.n_range (ax_cons (ex_int) (ax_nil))) (gx_name 5 nd)
      (bx_cons (sx_set 6 nd (ex_op ox_mod (ex_callTy cx_int rfl G.n_int rfl (ax_cons (ex_op ox_add (ex_op ox_mul (ex_var 6) (ex_int)) (ex_int)) (ax_nil))) (ex_int)))
      (bx_one (sx_expr (ex_meth mx_append (ex_var 1) (ax_cons (ex_op ox_fdiv (ex_var 6) (ex_int)) (ax_nil)))))))
      (bx_one (sx_ret (ex_lrev true rfl G.n_list rfl G.n_reversed (ex_var 1))))))))
theorem h__law_draws (G : Gl T ad fo ct) : FnD T 1 (ad "_law_draws") (fo "_law_draws") ["script"] m__law_draws := fno_of G.f__law_draws.1 s__law_draws fun Wx => b__law_draws G (Nat.le_refl _) Wx
/-- _law_take -/
def N__law_take : List Str := ["draws", "bound"]
noncomputable def g__law_take : Sn := sSeq (sIf (fun ρ => .bnd (.bnd (.bnd (.bnd (getV ρ 0) fun d => .bnd (.ret []) fun ds => .ret (d :: ds)) (arg1 lenD)) fun a => .bnd (.ret (.int 0)) fun b => eqD a b) boolD)
      (fun ρ => sE (.ret (.int 0)) ρ fun d M => some (.ret d, M))
      (sNext))
      (fun ρ => sE (.bnd (.bnd (.bnd (.bnd (getV ρ 0) fun a => chkM isL a (popD a [])) fun d => .bnd (.ret []) fun ds => .ret (d :: ds)) (arg1 intD)) fun a => .bnd (getV ρ 1) fun b => modD a b) ρ fun d M => some (.ret d, M))
theorem s__law_take : FnScope N__law_take ["draws", "bound"] (defScope (top 25)) := ⟨by kernel_rfl, by kernel_rfl, by kernel_rfl, nd_of (by kernel_rfl), by kernel_rfl, par_ok (by kernel_rfl), nofree_ok (by kernel_rfl)⟩
noncomputable def m__law_take : List D → Mo D := fnD N__law_take g__law_take
theorem b__law_take (G : Gl T ad fo ct) {k : Nat} (hk : 0 ≤ k) (Wx : WX) : BX (T.sc N__law_take (defScope (top 25)) k Wx (fo "_law_take").code) (defBody (top 25)) g__law_take := by
  have nd : (T.sc N__law_take (defScope (top 25)) k Wx (fo "_law_take").code).N.Nodup := s__law_take.nd
  unfold g__law_take
  exact bx_cons (sx_if (tx_cmp ox_eq (ex_callB cx_len rfl G.n_len rfl (ax_cons (ex_var 0) (ax_nil))) (ex_int))
      (bx_one (sx_ret (ex_int)))
      (bx_nil))
      (bx_one (sx_ret (ex_op ox_mod (ex_callTy cx_int rfl G.n_int rfl (ax_cons (ex_meth0 mx_pop (ex_var 0)) (ax_nil))) (ex_var 1))))
theorem h__law_take (G : Gl T ad fo ct) : FnD T 1 (ad "_law_take") (fo "_law_take") ["draws", "bound"] m__law_take := fnd_of G.f__law_take.1 s__law_take fun Wx => b__law_take G (Nat.le_refl _) Wx
/-- _law_alike -/
def N__law_alike : List Str := ["found", "due", "k"]
noncomputable def g__law_alike (m__law_alike : List D → Mo D) : Sn := sSeq (sIf (fun ρ => .bnd (.bnd (.bnd (.bnd (getV ρ 1) fun d => .bnd (.bnd (.ret (.ty "list")) fun d => .bnd (.ret []) fun ds => .ret (d :: ds)) fun ds => .ret (d :: ds)) (arg2 isiD)) boolD) fun z => cond z (.ret true) (.bnd (.bnd (.bnd (getV ρ 1) fun d => .bnd (.bnd (.ret (.ty "tuple")) fun d => .bnd (.ret []) fun ds => .ret (d :: ds)) fun ds => .ret (d :: ds)) (arg2 isiD)) boolD))
      (sSeq (sIf (fun ρ => .bnd (.bnd (.bnd (.bnd (.bnd (getV ρ 0) fun d => .bnd (.bnd (.ret (.ty "list")) fun d => .bnd (.ret []) fun ds => .ret (d :: ds)) fun ds => .ret (d :: ds)) (arg2 isiD)) fun a => .bnd (.bnd (.bnd (getV ρ 1) fun d => .bnd (.bnd (.ret (.ty "list")) fun d => .bnd (.ret []) fun ds => .ret (d :: ds)) fun ds => .ret (d :: ds)) (arg2 isiD)) fun b => neD a b) boolD) fun z => cond z (.ret true) (.bnd (.bnd (.bnd (.bnd (getV ρ 0) fun d => .bnd (.bnd (.ret (.ty "tuple")) fun d => .bnd (.ret []) fun ds => .ret (d :: ds)) fun ds => .ret (d :: ds)) (arg2 isiD)) fun a => .bnd (.bnd (.bnd (getV ρ 1) fun d => .bnd (.bnd (.ret (.ty "tuple")) fun d => .bnd (.ret []) fun ds => .ret (d :: ds)) fun ds => .ret (d :: ds)) (arg2 isiD)) fun b => neD a b) boolD))
      (fun ρ => sE (.ret (.bl false)) ρ fun d M => some (.ret d, M))
      (sNext))
      (fun ρ => sE (.bnd (.bnd (.bnd (.bnd (.bnd (getV ρ 0) fun d => .bnd (.ret []) fun ds => .ret (d :: ds)) (arg1 lenD)) fun a => .bnd (.bnd (.bnd (getV ρ 1) fun d => .bnd (.ret []) fun ds => .ret (d :: ds)) (arg1 lenD)) fun b => eqD a b) boolD) fun z => cond z (.bnd (.bnd (.bnd (.bnd (.bnd (.bnd (getV ρ 1) fun d => .bnd (.ret []) fun ds => .ret (d :: ds)) (arg1 lenD)) fun d => .bnd (.ret []) fun ds => .ret (d :: ds)) rngD1) fun it => cmpD false stL [] .lst .lst (compL it.gd (turn1 (wipeR ρ [2]) (fun d ρ => .ret (ρ.set 2 (some d))) (fun ρ => .bnd (.bnd (.bnd (.bnd (.bnd (getV ρ 0) fun a => .bnd (getV ρ 2) fun b => subD' a b) fun d => .bnd (.bnd (.bnd (getV ρ 1) fun a => .bnd (getV ρ 2) fun b => subD' a b) fun d => .bnd (.ret []) fun ds => .ret (d :: ds)) fun ds => .ret (d :: ds)) (m__law_alike)) boolD) fun b => .ret (!b)) (one' fun ρ => getV ρ 2)) it.items)) fun a => .bnd (.bnd (.ret []) lstD) fun b => eqD a b) (.ret (.bl false))) ρ fun d M => some (.ret d, M)))
      (sNext))
      (sSeq (sIf (fun ρ => .bnd (.bnd (getV ρ 1) fun a => .bnd (.ret .non) fun b => isD a b) boolD)
      (fun ρ => sE (.bnd (getV ρ 0) fun a => .bnd (.ret .non) fun b => isD a b) ρ fun d M => some (.ret d, M))
      (sNext))
      (sSeq (sIf (fun ρ => .bnd (.bnd (.bnd (.bnd (getV ρ 1) fun d => .bnd (.bnd (.ret (.ty "bool")) fun d => .bnd (.ret []) fun ds => .ret (d :: ds)) fun ds => .ret (d :: ds)) (arg2 isiD)) boolD) fun z => cond z (.ret true) (.bnd (.bnd (.bnd (getV ρ 0) fun d => .bnd (.bnd (.ret (.ty "bool")) fun d => .bnd (.ret []) fun ds => .ret (d :: ds)) fun ds => .ret (d :: ds)) (arg2 isiD)) boolD))
      (fun ρ => sE (.bnd (.bnd (.bnd (.bnd (getV ρ 0) fun d => .bnd (.bnd (.ret (.ty "bool")) fun d => .bnd (.ret []) fun ds => .ret (d :: ds)) fun ds => .ret (d :: ds)) (arg2 isiD)) boolD) fun z => cond z (.bnd (.bnd (.bnd (.bnd (getV ρ 1) fun d => .bnd (.bnd (.ret (.ty "bool")) fun d => .bnd (.ret []) fun ds => .ret (d :: ds)) fun ds => .ret (d :: ds)) (arg2 isiD)) boolD) fun z => cond z (.bnd (getV ρ 0) fun a => .bnd (getV ρ 1) fun b => eqD a b) (.ret (.bl false))) (.ret (.bl false))) ρ fun d M => some (.ret d, M))
      (sNext))
      (sSeq (sIf (fun ρ => .bnd (.bnd (.bnd (getV ρ 1) fun d => .bnd (.bnd (.ret (.ty "int")) fun d => .bnd (.ret []) fun ds => .ret (d :: ds)) fun ds => .ret (d :: ds)) (arg2 isiD)) boolD)
      (fun ρ => sE (.bnd (.bnd (.bnd (.bnd (getV ρ 0) fun d => .bnd (.bnd (.ret (.ty "int")) fun d => .bnd (.ret []) fun ds => .ret (d :: ds)) fun ds => .ret (d :: ds)) (arg2 isiD)) boolD) fun z => cond z (.bnd (getV ρ 0) fun a => .bnd (getV ρ 1) fun b => eqD a b) (.ret (.bl false))) ρ fun d M => some (.ret d, M))
      (sNext))
      (fun ρ => sE (.bnd (.bnd (.bnd (.bnd (getV ρ 0) fun d => .bnd (.bnd (.ret (.ty "str")) fun d => .bnd (.ret []) fun ds => .ret (d :: ds)) fun ds => .ret (d :: ds)) (arg2 isiD)) boolD) fun z => cond z (.bnd (getV ρ 0) fun a => .bnd (getV ρ 1) fun b => eqD a b) (.ret (.bl false))) ρ fun d M => some (.ret d, M)))))
theorem s__law_alike : FnScope N__law_alike ["found", "due"] (defScope (top 26)) := ⟨by kernel_rfl, by kernel_rfl, by kernel_rfl, nd_of (by kernel_rfl), by kernel_rfl, par_ok (by kernel_rfl), nofree_ok (by kernel_rfl)⟩
noncomputable def m__law_alike : Nat → List D → Mo D
  | 0 => fun _ => .stuck
  | n + 1 => fnD N__law_alike (g__law_alike (m__law_alike n))
theorem b__law_alike (G : Gl T ad fo ct) {k : Nat} (hk : 0 ≤ k) {m__law_alike : List D → Mo D} (H__law_alike : FnD T k (ad "_law_alike") (fo "_law_alike") ["found", "due"] m__law_alike) (Wx : WX) : BX (T.sc N__law_alike (defScope (top 26)) k Wx (fo "_law_alike").code) (defBody (top 26)) (g__law_alike m__law_alike) := by
  have nd : (T.sc N__law_alike (defScope (top 26)) k Wx (fo "_law_alike").code).N.Nodup := s__law_alike.nd
  unfold g__law_alike
  exact bx_cons (sx_if (tx_w (wx_or (tx_bool (ex_callB cx_isi rfl G.n_isinstance rfl (ax_cons (ex_var 1) (ax_cons (ex_ty rfl G.n_list rfl) (ax_nil))))) (wx_or1 (tx_bool (ex_callB cx_isi rfl G.n_isinstance rfl (ax_cons (ex_var 1) (ax_cons (ex_ty rfl G.n_tuple rfl) (ax_nil))))))))
      (bx_cons (sx_if (tx_w (wx_or (tx_cmp ox_ne (ex_callB cx_isi rfl G.n_isinstance rfl (ax_cons (ex_var 0) (ax_cons (ex_ty rfl G.n_list rfl) (ax_nil)))) (ex_callB cx_isi rfl G.n_isinstance rfl (ax_cons (ex_var 1) (ax_cons (ex_ty rfl G.n_list rfl) (ax_nil))))) (wx_or1 (tx_cmp ox_ne (ex_callB cx_isi rfl G.n_isinstance rfl (ax_cons (ex_var 0) (ax_cons (ex_ty rfl G.n_tuple rfl) (ax_nil)))) (ex_callB cx_isi rfl G.n_isinstance rfl (ax_cons (ex_var 1) (ax_cons (ex_ty rfl G.n_tuple rfl) (ax_nil))))))))
      (bx_one (sx_ret (ex_bl)))
      (bx_nil))
      (bx_one (sx_ret (ex_and (ex_cmp ox_eq (ex_callB cx_len rfl G.n_len rfl (ax_cons (ex_var 0) (ax_nil))) (ex_callB cx_len rfl G.n_len rfl (ax_cons (ex_var 1) (ax_nil)))) (ex_one (ex_cmp ox_eq (ex_lx (lx_l1 false [("k", 2)]  nd (blk_ok (by kernel_rfl))  (ix_range1 rfl G.n_range (ax_cons (ex_callB cx_len rfl G.n_len rfl (ax_cons (ex_var 1) (ax_nil))) (ax_nil))) (gv_name 2 nd) (txs_one (tx_not (tx_bool (ex_call H__law_alike (Nat.le_refl _) rfl G.f__law_alike.2.1 G.f__law_alike.2.2.1 G.f__law_alike.2.2.2 (ax_cons (ex_sub (ex_var 0) (ex_var 2)) (ax_cons (ex_sub (ex_var 1) (ex_var 2)) (ax_nil))) (fun _ _ _ _ h => len_cons (n := 1) (len_cons (n := 0) ln0) _ _ _ h)))))  (ex_var 2))) (ex_lst (ax_nil))))))))
      (bx_nil))
      (bx_cons (sx_if (tx_cmp ox_is (ex_var 1) (ex_non))
      (bx_one (sx_ret (ex_cmp ox_is (ex_var 0) (ex_non))))
      (bx_nil))
      (bx_cons (sx_if (tx_w (wx_or (tx_bool (ex_callB cx_isi rfl G.n_isinstance rfl (ax_cons (ex_var 1) (ax_cons (ex_ty rfl G.n_bool rfl) (ax_nil))))) (wx_or1 (tx_bool (ex_callB cx_isi rfl G.n_isinstance rfl (ax_cons (ex_var 0) (ax_cons (ex_ty rfl G.n_bool rfl) (ax_nil))))))))
      (bx_one (sx_ret (ex_and (ex_callB cx_isi rfl G.n_isinstance rfl (ax_cons (ex_var 0) (ax_cons (ex_ty rfl G.n_bool rfl) (ax_nil)))) (ex_and (ex_callB cx_isi rfl G.n_isinstance rfl (ax_cons (ex_var 1) (ax_cons (ex_ty rfl G.n_bool rfl) (ax_nil)))) (ex_one (ex_cmp ox_eq (ex_var 0) (ex_var 1)))))))
      (bx_nil))
      (bx_cons (sx_if (tx_bool (ex_callB cx_isi rfl G.n_isinstance rfl (ax_cons (ex_var 1) (ax_cons (ex_ty rfl G.n_int rfl) (ax_nil)))))
      (bx_one (sx_ret (ex_and (ex_callB cx_isi rfl G.n_isinstance rfl (ax_cons (ex_var 0) (ax_cons (ex_ty rfl G.n_int rfl) (ax_nil)))) (ex_one (ex_cmp ox_eq (ex_var 0) (ex_var 1))))))
      (bx_nil))
      (bx_one (sx_ret (ex_and (ex_callB cx_isi rfl G.n_isinstance rfl (ax_cons (ex_var 0) (ax_cons (ex_ty rfl G.n_str rfl) (ax_nil)))) (ex_one (ex_cmp ox_eq (ex_var 0) (ex_var 1)))))))))
theorem h__law_alike (G : Gl T ad fo ct) : ∀ n, FnD T (n + 1) (ad "_law_alike") (fo "_law_alike") ["found", "due"] (m__law_alike n)
  | 0 => fnd_stuck
  | n + 1 => by
    show FnD T (n + 1 + 1) _ _ _ (fnD N__law_alike (g__law_alike (m__law_alike n)))
    exact fnd_of G.f__law_alike.1 s__law_alike fun Wx => b__law_alike G (by omega) (h__law_alike G n) Wx
/-- _law_graph -/
def N__law_graph : List Str := ["draws", "points", "many", "j", "found", "k"]
noncomputable def l1__law_graph : Sn := fun ρ => sE (.bnd (getV ρ 4) fun a => .bnd (.bnd (.bnd (.bnd (.bnd (getV ρ 5) fun a => .bnd (.ret (.int 1)) fun b => addD a b) fun d => .bnd (.bnd (getV ρ 1) fun d => .bnd (.ret []) fun ds => .ret (d :: ds)) fun ds => .ret (d :: ds)) rngD2) fun it => cmpD false stL [] .lst .lst (compL it.gd (turn1 (wipeR ρ [3]) (fun d ρ => .ret (ρ.set 3 (some d))) (fun ρ => .bnd (.bnd (.bnd (.bnd (getV ρ 0) fun d => .bnd (.bnd (.ret (.int 100)) fun d => .bnd (.ret []) fun ds => .ret (d :: ds)) fun ds => .ret (d :: ds)) (m__law_take)) fun a => .bnd (getV ρ 2) fun b => ltD a b) boolD) (one' fun ρ => .bnd (.bnd (getV ρ 5) fun d => .bnd (.bnd (getV ρ 3) fun d => .bnd (.ret []) fun ds => .ret (d :: ds)) fun ds => .ret (d :: ds)) tupD)) it.items)) fun b => addD a b) ρ fun d M => some (.nx (ρ.set 4 (some d)), M)
noncomputable def g__law_graph : Sn := sSeq (fun ρ => sE (.bnd (.ret []) lstD) ρ fun d M => some (.nx (ρ.set 4 (some d)), M))
      (sSeq (sFor (fun ρ => .bnd (.bnd (getV ρ 1) fun d => .bnd (.ret []) fun ds => .ret (d :: ds)) rngD1) (fun d ρ => .ret (ρ.set 5 (some d))) l1__law_graph)
      (fun ρ => sE (.bnd (.bnd (getV ρ 1) fun d => .bnd (.bnd (.bnd (.bnd (getV ρ 4) fun d => .bnd (.ret []) fun ds => .ret (d :: ds)) (arg1 tupleD)) fun d => .bnd (.ret []) fun ds => .ret (d :: ds)) fun ds => .ret (d :: ds)) tupD) ρ fun d M => some (.ret d, M)))
theorem s__law_graph : FnScope N__law_graph ["draws", "points", "many"] (defScope (top 27)) := ⟨by kernel_rfl, by kernel_rfl, by kernel_rfl, nd_of (by kernel_rfl), by kernel_rfl, par_ok (by kernel_rfl), nofree_ok (by kernel_rfl)⟩
noncomputable def m__law_graph : List D → Mo D := fnD N__law_graph g__law_graph
theorem b__law_graph (G : Gl T ad fo ct) {k : Nat} (hk : 1 ≤ k) (Wx : WX) : BX (T.sc N__law_graph (defScope (top 27)) k Wx (fo "_law_graph").code) (defBody (top 27)) g__law_graph := by
  have nd : (T.sc N__law_graph (defScope (top 27)) k Wx (fo "_law_graph").code).N.Nodup := s__law_graph.nd
  have H__law_take := h__law_take (T := T) G
  unfold g__law_graph l1__law_graph
  exact bx_cons (sx_set 4 nd (ex_lst (ax_nil)))
      (bx_cons (sx_for rfl (ix_range1 rfl G.n_range (ax_cons (ex_var 1) (ax_nil))) (gx_name 5 nd)
      (bx_one (sx_set 4 nd (ex_op ox_add (ex_var 4) (ex_lx (lx_l1 false [("j", 3)]  nd (blk_ok (by kernel_rfl))  (ix_range2 rfl G.n_range (ax_cons (ex_op ox_add (ex_var 5) (ex_int)) (ax_cons (ex_var 1) (ax_nil)))) (gv_name 3 nd) (txs_one (tx_cmp ox_lt (ex_call H__law_take (show 1 ≤ k by omega) rfl G.f__law_take.2.1 G.f__law_take.2.2.1 G.f__law_take.2.2.2 (ax_cons (ex_var 0) (ax_cons (ex_int) (ax_nil))) (fun _ _ _ _ h => len_cons (n := 1) (len_cons (n := 0) ln0) _ _ _ h)) (ex_var 2)))  (ex_tup (ax_cons (ex_var 5) (ax_cons (ex_var 3) (ax_nil))))))))))
      (bx_one (sx_ret (ex_tup (ax_cons (ex_var 1) (ax_cons (ex_callTy cx_tuple rfl G.n_tuple rfl (ax_cons (ex_var 4) (ax_nil))) (ax_nil)))))))
theorem h__law_graph (G : Gl T ad fo ct) : FnD T 2 (ad "_law_graph") (fo "_law_graph") ["draws", "points", "many"] m__law_graph := fnd_of G.f__law_graph.1 s__law_graph fun Wx => b__law_graph G (Nat.le_refl _) Wx
/-- _law_shuffled -/
def N__law_shuffled : List Str := ["draws", "rows", "left", "found"]
noncomputable def l1__law_shuffled : Sn := fun ρ => sE (.bnd (getV ρ 3) fun a => chkM isL a (.bnd (.bnd (.bnd (getV ρ 2) fun a => chkM isL a (.bnd (.bnd (.bnd (.bnd (getV ρ 0) fun d => .bnd (.bnd (.bnd (.bnd (getV ρ 2) fun d => .bnd (.ret []) fun ds => .ret (d :: ds)) (arg1 lenD)) fun d => .bnd (.ret []) fun ds => .ret (d :: ds)) fun ds => .ret (d :: ds)) (m__law_take)) fun d => .bnd (.ret []) fun ds => .ret (d :: ds)) fun ds => popD a ds)) fun d => .bnd (.ret []) fun ds => .ret (d :: ds)) fun ds => appendD a ds)) ρ fun _ M => some (.nx ρ, M)
noncomputable def g__law_shuffled : Sn := sSeq (fun ρ => sE (.bnd (.bnd (.bnd (getV ρ 1) fun d => .bnd (.ret []) fun ds => .ret (d :: ds)) (arg1 (listA true))) fun d => .bnd (.bnd (.bnd (.ret []) newL) fun d => .bnd (.ret []) fun ds => .ret (d :: ds)) fun ds => .ret (d :: ds)) ρ (par2 2 3 ρ))
      (sSeq (whileN (fun ρ => .bnd (.bnd (getV ρ 2) fun a => .bnd (.bnd (.ret []) lstD) fun b => neD a b) boolD) l1__law_shuffled 1000)
      (fun ρ => sE (getV ρ 3) ρ fun d M => some (.ret d, M)))
theorem s__law_shuffled : FnScope N__law_shuffled ["draws", "rows"] (defScope (top 28)) := ⟨by kernel_rfl, by kernel_rfl, by kernel_rfl, nd_of (by kernel_rfl), by kernel_rfl, par_ok (by kernel_rfl), nofree_ok (by kernel_rfl)⟩
noncomputable def m__law_shuffled : List D → Mo D := fnD N__law_shuffled g__law_shuffled
theorem b__law_shuffled (G : Gl T ad fo ct) {k : Nat} (hk : 1 ≤ k) (Wx : WX) : BX (T.sc N__law_shuffled (defScope (top 28)) k Wx (fo "_law_shuffled").code) (defBody (top 28)) g__law_shuffled := by
  have nd : (T.sc N__law_shuffled (defScope (top 28)) k Wx (fo "_law_shuffled").code).N.Nodup := s__law_shuffled.nd
  have H__law_take := h__law_take (T := T) G
  unfold g__law_shuffled l1__law_shuffled
  exact bx_cons (sx_par 2 3 nd (ax_cons (ex_callTy (cx_listA true) rfl G.n_list rfl (ax_cons (ex_var 1) (ax_nil))) (ax_cons (ex_lstM (ax_nil)) (ax_nil))) (hw := fun X c => (sws_sc c _ _).trans (by kernel_rfl)))
      (bx_cons (sx_while 1000 rfl (tx_cmp ox_ne (ex_var 2) (ex_lst (ax_nil)))
      (bx_one (sx_expr (ex_meth mx_append (ex_var 3) (ax_cons (ex_meth mx_pop (ex_var 2) (ax_cons (ex_call H__law_take (show 1 ≤ k by omega) rfl G.f__law_take.2.1 G.f__law_take.2.2.1 G.f__law_take.2.2.2 (ax_cons (ex_var 0) (ax_cons (ex_callB cx_len rfl G.n_len rfl (ax_cons (ex_var 2) (ax_nil))) (ax_nil))) (fun _ _ _ _ h => len_cons (n := 1) (len_cons (n := 0) ln0) _ _ _ h)) (ax_nil))) (ax_nil))))))
      (bx_one (sx_ret (ex_var 3))))
theorem h__law_shuffled (G : Gl T ad fo ct) : FnD T 2 (ad "_law_shuffled") (fo "_law_shuffled") ["draws", "rows"] m__law_shuffled := fnd_of G.f__law_shuffled.1 s__law_shuffled fun Wx => b__law_shuffled G (Nat.le_refl _) Wx
/-- _law_tasks -/
def N__law_tasks : List Str := ["draws", "most", "cells", "many", "found", "number", "parent", "front"]
noncomputable def l1__law_tasks : Sn := sSeq (fun ρ => sE (.bnd (.bnd (.bnd (.bnd (getV ρ 5) fun a => .bnd (.ret (.int 1)) fun b => addD a b) fun a => .bnd (getV ρ 3) fun b => ltD a b) boolD) fun z => cond z (.bnd (.bnd (getV ρ 5) fun a => .bnd (.ret (.int 1)) fun b => addD a b) fun a => .bnd (.bnd (.bnd (getV ρ 0) fun d => .bnd (.bnd (.bnd (.bnd (.ret (.int 3)) fun d => .bnd (.bnd (.bnd (getV ρ 3) fun a => .bnd (getV ρ 5) fun b => subD a b) fun d => .bnd (.ret []) fun ds => .ret (d :: ds)) fun ds => .ret (d :: ds)) (arg2 minD2)) fun d => .bnd (.ret []) fun ds => .ret (d :: ds)) fun ds => .ret (d :: ds)) (m__law_take)) fun b => addD a b) (getV ρ 3)) ρ fun d M => some (.nx (ρ.set 6 (some d)), M))
      (sSeq (fun ρ => sE (.bnd (.bnd (.bnd (getV ρ 0) fun d => .bnd (.bnd (getV ρ 2) fun d => .bnd (.ret []) fun ds => .ret (d :: ds)) fun ds => .ret (d :: ds)) (m__law_take)) fun a => .bnd (.ret (.int 1)) fun b => addD a b) ρ fun d M => some (.nx (ρ.set 7 (some d)), M))
      (fun ρ => sE (.bnd (getV ρ 4) fun a => chkM isL a (.bnd (.bnd (.bnd (.bnd (.bnd (.bnd (.bnd (.bnd (getV ρ 6) fun a => .bnd (getV ρ 3) fun b => ltD a b) boolD) fun z => cond z (.bnd (.bnd (.bnd (.bnd (getV ρ 0) fun d => .bnd (.bnd (.ret (.int 8)) fun d => .bnd (.ret []) fun ds => .ret (d :: ds)) fun ds => .ret (d :: ds)) (m__law_take)) fun a => .bnd (.ret (.int 0)) fun b => gtD a b) boolD) (.ret false)) fun z => cond z (getV ρ 6) (.ret .non)) fun d => .bnd (.bnd (getV ρ 7) fun d => .bnd (.bnd (.bnd (.bnd (getV ρ 0) fun d => .bnd (.bnd (.bnd (getV ρ 7) fun a => .bnd (.ret (.int 1)) fun b => addD a b) fun d => .bnd (.ret []) fun ds => .ret (d :: ds)) fun ds => .ret (d :: ds)) (m__law_take)) fun d => .bnd (.ret []) fun ds => .ret (d :: ds)) fun ds => .ret (d :: ds)) fun ds => .ret (d :: ds)) tupD) fun d => .bnd (.ret []) fun ds => .ret (d :: ds)) fun ds => appendD a ds)) ρ fun _ M => some (.nx ρ, M)))
noncomputable def g__law_tasks : Sn := sSeq (fun ρ => sE (.bnd (.bnd (.bnd (getV ρ 0) fun d => .bnd (.bnd (.bnd (getV ρ 1) fun a => .bnd (.ret (.int 1)) fun b => addD a b) fun d => .bnd (.ret []) fun ds => .ret (d :: ds)) fun ds => .ret (d :: ds)) (m__law_take)) fun d => .bnd (.bnd (.bnd (.ret []) newL) fun d => .bnd (.ret []) fun ds => .ret (d :: ds)) fun ds => .ret (d :: ds)) ρ (par2 3 4 ρ))
      (sSeq (sFor (fun ρ => .bnd (.bnd (getV ρ 3) fun d => .bnd (.ret []) fun ds => .ret (d :: ds)) rngD1) (fun d ρ => .ret (ρ.set 5 (some d))) l1__law_tasks)
      (fun ρ => sE (.bnd (.bnd (getV ρ 4) fun d => .bnd (.ret []) fun ds => .ret (d :: ds)) (arg1 tupleD)) ρ fun d M => some (.ret d, M)))
theorem s__law_tasks : FnScope N__law_tasks ["draws", "most", "cells"] (defScope (top 29)) := ⟨by kernel_rfl, by kernel_rfl, by kernel_rfl, nd_of (by kernel_rfl), by kernel_rfl, par_ok (by kernel_rfl), nofree_ok (by kernel_rfl)⟩
noncomputable def m__law_tasks : List D → Mo D := fnD N__law_tasks g__law_tasks
theorem b__law_tasks (G : Gl T ad fo ct) {k : Nat} (hk : 1 ≤ k) (Wx : WX) : BX (T.sc N__law_tasks (defScope (top 29)) k Wx (fo "_law_tasks").code) (defBody (top 29)) g__law_tasks := by
  have nd : (T.sc N__law_tasks (defScope (top 29)) k Wx (fo "_law_tasks").code).N.Nodup := s__law_tasks.nd
  have H__law_take := h__law_take (T := T) G
  unfold g__law_tasks l1__law_tasks
  exact bx_cons (sx_par 3 4 nd (ax_cons (ex_call H__law_take (show 1 ≤ k by omega) rfl G.f__law_take.2.1 G.f__law_take.2.2.1 G.f__law_take.2.2.2 (ax_cons (ex_var 0) (ax_cons (ex_op ox_add (ex_var 1) (ex_int)) (ax_nil))) (fun _ _ _ _ h => len_cons (n := 1) (len_cons (n := 0) ln0) _ _ _ h)) (ax_cons (ex_lstM (ax_nil)) (ax_nil))) (hw := fun X c => (sws_sc c _ _).trans (by kernel_rfl)))
      (bx_cons (sx_for rfl (ix_range1 rfl G.n_range (ax_cons (ex_var 3) (ax_nil))) (gx_name 5 nd)
      (bx_cons (sx_set 6 nd (ex_if (tx_cmp ox_lt (ex_op ox_add (ex_var 5) (ex_int)) (ex_var 3)) (ex_op ox_add (ex_op ox_add (ex_var 5) (ex_int)) (ex_call H__law_take (show 1 ≤ k by omega) rfl G.f__law_take.2.1 G.f__law_take.2.2.1 G.f__law_take.2.2.2 (ax_cons (ex_var 0) (ax_cons (ex_callB cx_min2 rfl G.n_min rfl (ax_cons (ex_int) (ax_cons (ex_op ox_sub (ex_var 3) (ex_var 5)) (ax_nil)))) (ax_nil))) (fun _ _ _ _ h => len_cons (n := 1) (len_cons (n := 0) ln0) _ _ _ h))) (ex_var 3)))
      (bx_cons (sx_set 7 nd (ex_op ox_add (ex_call H__law_take (show 1 ≤ k by omega) rfl G.f__law_take.2.1 G.f__law_take.2.2.1 G.f__law_take.2.2.2 (ax_cons (ex_var 0) (ax_cons (ex_var 2) (ax_nil))) (fun _ _ _ _ h => len_cons (n := 1) (len_cons (n := 0) ln0) _ _ _ h)) (ex_int)))
      (bx_one (sx_expr (ex_meth mx_append (ex_var 4) (ax_cons (ex_tup (ax_cons (ex_if (tx_w (wx_and (tx_cmp ox_lt (ex_var 6) (ex_var 3)) (wx_and1 (tx_cmp ox_gt (ex_call H__law_take (show 1 ≤ k by omega) rfl G.f__law_take.2.1 G.f__law_take.2.2.1 G.f__law_take.2.2.2 (ax_cons (ex_var 0) (ax_cons (ex_int) (ax_nil))) (fun _ _ _ _ h => len_cons (n := 1) (len_cons (n := 0) ln0) _ _ _ h)) (ex_int))))) (ex_var 6) (ex_non)) (ax_cons (ex_var 7) (ax_cons (ex_call H__law_take (show 1 ≤ k by omega) rfl G.f__law_take.2.1 G.f__law_take.2.2.1 G.f__law_take.2.2.2 (ax_cons (ex_var 0) (ax_cons (ex_op ox_add (ex_var 7) (ex_int)) (ax_nil))) (fun _ _ _ _ h => len_cons (n := 1) (len_cons (n := 0) ln0) _ _ _ h)) (ax_nil))))) (ax_nil))))))))
      (bx_one (sx_ret (ex_callTy cx_tuple rfl G.n_tuple rfl (ax_cons (ex_var 4) (ax_nil))))))
theorem h__law_tasks (G : Gl T ad fo ct) : FnD T 2 (ad "_law_tasks") (fo "_law_tasks") ["draws", "most", "cells"] m__law_tasks := fnd_of G.f__law_tasks.1 s__law_tasks fun Wx => b__law_tasks G (Nat.le_refl _) Wx
/-- _law_children -/
def N__law_children : List Str := ["tasks", "number", "child"]
noncomputable def g__law_children : Sn := fun ρ => sE (.bnd (.bnd (.bnd (.bnd (.bnd (getV ρ 0) fun d => .bnd (.ret []) fun ds => .ret (d :: ds)) (arg1 lenD)) fun d => .bnd (.ret []) fun ds => .ret (d :: ds)) rngD1) fun it => cmpD false stL [] .lst .lst (compL it.gd (turn1 (wipeR ρ [1]) (fun d ρ => .ret (ρ.set 1 (some d))) (fun _ => .ret true) (one' fun ρ => .bnd (.bnd (.bnd (.bnd (.bnd (.bnd (.bnd (getV ρ 0) fun d => .bnd (.ret []) fun ds => .ret (d :: ds)) (arg1 lenD)) fun d => .bnd (.ret []) fun ds => .ret (d :: ds)) rngD1) fun it => cmpD false stL [] .lst .lst (compL it.gd (turn1 (wipeR ρ [2]) (fun d ρ => .ret (ρ.set 2 (some d))) (fun ρ => .bnd (.bnd (.bnd (.bnd (getV ρ 0) fun a => .bnd (getV ρ 2) fun b => subD' a b) fun a => .bnd (.ret (.int 0)) fun b => subD' a b) fun a => .bnd (getV ρ 1) fun b => eqD a b) boolD) (one' fun ρ => getV ρ 2)) it.items)) fun d => .bnd (.ret []) fun ds => .ret (d :: ds)) (arg1 tupleD))) it.items)) ρ fun d M => some (.ret d, M)
theorem s__law_children : FnScope N__law_children ["tasks"] (defScope (top 30)) := ⟨by kernel_rfl, by kernel_rfl, by kernel_rfl, nd_of (by kernel_rfl), by kernel_rfl, par_ok (by kernel_rfl), nofree_ok (by kernel_rfl)⟩
noncomputable def m__law_children : List D → Mo D := fnD N__law_children g__law_children
theorem b__law_children (G : Gl T ad fo ct) {k : Nat} (hk : 0 ≤ k) (Wx : WX) : BX (T.sc N__law_children (defScope (top 30)) k Wx (fo "_law_children").code) (defBody (top 30)) g__law_children := by
  have nd : (T.sc N__law_children (defScope (top 30)) k Wx (fo "_law_children").code).N.Nodup := s__law_children.nd
  unfold g__law_children
  exact bx_one (sx_ret (ex_lx (lx_l1 false [("number", 1)]  nd (blk_ok (by kernel_rfl))  (ix_range1 rfl G.n_range (ax_cons (ex_callB cx_len rfl G.n_len rfl (ax_cons (ex_var 0) (ax_nil))) (ax_nil))) (gv_name 1 nd) (txs_nil)  (ex_callTy cx_tuple rfl G.n_tuple rfl (ax_cons (ex_lx (lx_l1 false [("child", 2)]  nd (blk_ok (by kernel_rfl))  (ix_range1 rfl G.n_range (ax_cons (ex_callB cx_len rfl G.n_len rfl (ax_cons (ex_var 0) (ax_nil))) (ax_nil))) (gv_name 2 nd) (txs_one (tx_cmp ox_eq (ex_sub (ex_sub (ex_var 0) (ex_var 2)) (ex_int)) (ex_var 1)))  (ex_var 2))) (ax_nil))))))
theorem h__law_children (G : Gl T ad fo ct) : FnD T 1 (ad "_law_children") (fo "_law_children") ["tasks"] m__law_children := fnd_of G.f__law_children.1 s__law_children fun Wx => b__law_children G (Nat.le_refl _) Wx
/-- _law_filled -/
def N__law_filled : List Str := ["graph", "order", "point", "other", "near", "one", "found", "k", "behind_one"]
noncomputable def l1__law_filled : Sn := sSeq (fun ρ => sE (.bnd (.bnd (getV ρ 4) fun a => .bnd (getV ρ 5) fun b => subD' a b) fun a => chkM isL a (.bnd (.bnd (getV ρ 3) fun d => .bnd (.ret []) fun ds => .ret (d :: ds)) fun ds => appendD a ds)) ρ fun _ M => some (.nx ρ, M))
      (fun ρ => sE (.bnd (.bnd (getV ρ 4) fun a => .bnd (getV ρ 3) fun b => subD' a b) fun a => chkM isL a (.bnd (.bnd (getV ρ 5) fun d => .bnd (.ret []) fun ds => .ret (d :: ds)) fun ds => appendD a ds)) ρ fun _ M => some (.nx ρ, M))
noncomputable def l2__law_filled : Sn := fun ρ => sE (.bnd (.bnd (getV ρ 4) fun a => .bnd (getV ρ 5) fun b => subD' a b) fun a => .bnd (.bnd (.bnd (.bnd (getV ρ 6) fun a => .bnd (getV ρ 2) fun b => subD' a b) itD) fun it => cmpD false stL [] .lst .lst (compL it.gd (turn1 (wipeR ρ [3]) (fun d ρ => .ret (ρ.set 3 (some d))) (fun ρ => .bnd (.bnd (.bnd (getV ρ 3) fun a => .bnd (getV ρ 5) fun b => neD a b) boolD) fun z => cond z (.bnd (.bnd (getV ρ 3) fun a => .bnd (.bnd (getV ρ 4) fun a => .bnd (getV ρ 5) fun b => subD' a b) fun b => ninAll a b) boolD) (.ret false)) (one' fun ρ => getV ρ 3)) it.items)) fun b => addD a b) ρ fun d => s0 (.bnd (getV ρ 4) fun a => .bnd (getV ρ 5) fun b => storeM a b d ρ)
noncomputable def l3__law_filled : Sn := sSeq (fun ρ => sE (.bnd (.bnd (.bnd (getV ρ 1) fun a => .bnd (getV ρ 7) fun b => subD' a b) fun d => .bnd (.bnd (.bnd (getV ρ 1) fun a => .bnd (.bnd (.bnd (getV ρ 7) fun a => .bnd (.ret (.int 1)) fun b => addD a b) partD) fun l => .bnd (.ret none) fun h => sliceD a l h) fun d => .bnd (.ret []) fun ds => .ret (d :: ds)) fun ds => .ret (d :: ds)) tupD) ρ fun d => s0 ((fun d ρ => .bnd (itemsT 2 d) fun ds => (gConsD (fun d ρ => .ret (ρ.set 2 (some d))) (gConsD (fun d ρ => .ret (ρ.set 8 (some d))) gNilD)) ds ρ) d ρ))
      (sSeq (fun ρ => sE (.bnd (.bnd (getV ρ 8) itD) fun it => cmpD false stL [] .lst .lst (compL it.gd (turn1 (wipeR ρ [3]) (fun d ρ => .ret (ρ.set 3 (some d))) (fun ρ => .bnd (.bnd (getV ρ 3) fun a => .bnd (.bnd (getV ρ 4) fun a => .bnd (getV ρ 2) fun b => subD' a b) fun b => inAll a b) boolD) (one' fun ρ => getV ρ 3)) it.items)) ρ fun d => s0 (.bnd (getV ρ 6) fun a => .bnd (getV ρ 2) fun b => storeM a b d ρ))
      (sFor (fun ρ => .bnd (.bnd (getV ρ 6) fun a => .bnd (getV ρ 2) fun b => subD' a b) itD) (fun d ρ => .ret (ρ.set 5 (some d))) l2__law_filled))
noncomputable def g__law_filled : Sn := sSeq (fun ρ => sE (.bnd (.bnd (.bnd (.bnd (getV ρ 0) fun a => .bnd (.ret (.int 0)) fun b => subD' a b) fun d => .bnd (.ret []) fun ds => .ret (d :: ds)) rngD1) fun it => cmpD true stL [] .lst .lst (compL it.gd (turn1 (wipeR ρ [2]) (fun d ρ => .ret (ρ.set 2 (some d))) (fun _ => .ret true) (one' fun ρ => .bnd (.ret []) newL)) it.items)) ρ fun d M => some (.nx (ρ.set 4 (some d)), M))
      (sSeq (sFor (fun ρ => .bnd (.bnd (getV ρ 0) fun a => .bnd (.ret (.int 1)) fun b => subD' a b) itD) (fun d ρ => .bnd (itemsT 2 d) fun ds => (gConsD (fun d ρ => .ret (ρ.set 5 (some d))) (gConsD (fun d ρ => .ret (ρ.set 3 (some d))) gNilD)) ds ρ) l1__law_filled)
      (sSeq (fun ρ => sE (finDO true (.dct false []) (.dct false [])) ρ fun d M => some (.nx (ρ.set 6 (some d)), M))
      (sSeq (sFor (fun ρ => .bnd (.bnd (.bnd (.bnd (getV ρ 1) fun d => .bnd (.ret []) fun ds => .ret (d :: ds)) (arg1 lenD)) fun d => .bnd (.ret []) fun ds => .ret (d :: ds)) rngD1) (fun d ρ => .ret (ρ.set 7 (some d))) l3__law_filled)
      (fun ρ => sE (getV ρ 6) ρ fun d M => some (.ret d, M)))))
theorem s__law_filled : FnScope N__law_filled ["graph", "order"] (defScope (top 31)) := ⟨by kernel_rfl, by kernel_rfl, by kernel_rfl, nd_of (by kernel_rfl), by kernel_rfl, par_ok (by kernel_rfl), nofree_ok (by kernel_rfl)⟩
noncomputable def m__law_filled : List D → Mo D := fnD N__law_filled g__law_filled
theorem b__law_filled (G : Gl T ad fo ct) {k : Nat} (hk : 0 ≤ k) (Wx : WX) : BX (T.sc N__law_filled (defScope (top 31)) k Wx (fo "_law_filled").code) (defBody (top 31)) g__law_filled := by
  have nd : (T.sc N__law_filled (defScope (top 31)) k Wx (fo "_law_filled").code).N.Nodup := s__law_filled.nd
  unfold g__law_filled l3__law_filled l2__law_filled l1__law_filled
  exact bx_cons (sx_set 4 nd (ex_lx (lx_l1 true [("point", 2)]  nd (blk_ok (by kernel_rfl))  (ix_range1 rfl G.n_range (ax_cons (ex_sub (ex_var 0) (ex_int)) (ax_nil))) (gv_name 2 nd) (txs_nil)  (ex_lstM (ax_nil)))) (hs := fun X c => sw_lcC c rfl))
      (bx_cons (sx_for rfl (ix_all (ex_sub (ex_var 0) (ex_int))) (gx_tup (n := 2) (gxs_cons (gx_name 5 nd) (gxs_cons (gx_name 3 nd) (gxs_nil))))
      (bx_cons (sx_expr (ex_meth mx_append (ex_sub (ex_var 4) (ex_var 5)) (ax_cons (ex_var 3) (ax_nil))))
      (bx_one (sx_expr (ex_meth mx_append (ex_sub (ex_var 4) (ex_var 3)) (ax_cons (ex_var 5) (ax_nil)))))))
      (bx_cons (sx_set 6 nd (ex_dict0 true false))
      (bx_cons (sx_for rfl (ix_range1 rfl G.n_range (ax_cons (ex_callB cx_len rfl G.n_len rfl (ax_cons (ex_var 1) (ax_nil))) (ax_nil))) (gx_name 7 nd)
      (bx_cons (sx_asg (ex_tup (ax_cons (ex_sub (ex_var 1) (ex_var 7)) (ax_cons (ex_slice (ex_var 1) (px_some (ex_op ox_add (ex_var 7) (ex_int))) (px_none)) (ax_nil)))) (gx_tup (n := 2) (gxs_cons (gx_name 2 nd) (gxs_cons (gx_name 8 nd) (gxs_nil)))) (hw := fun X c => (sws_sc c _ _).trans (by kernel_rfl)))
      (bx_cons (sx_asg (ex_lx (lx_l1 false [("other", 3)]  nd (blk_ok (by kernel_rfl))  (ix_all (ex_var 8)) (gv_name 3 nd) (txs_one (tx_cmp ox_inA (ex_var 3) (ex_sub (ex_var 4) (ex_var 2))))  (ex_var 3))) (gx_sub (ex_var 6) (ex_var 2)))
      (bx_one (sx_for rfl (ix_all (ex_sub (ex_var 6) (ex_var 2))) (gx_name 5 nd)
      (bx_one (sx_asg (ex_op ox_add (ex_sub (ex_var 4) (ex_var 5)) (ex_lx (lx_l1 false [("other", 3)]  nd (blk_ok (by kernel_rfl))  (ix_all (ex_sub (ex_var 6) (ex_var 2))) (gv_name 3 nd) (txs_one (tx_w (wx_and (tx_cmp ox_ne (ex_var 3) (ex_var 5)) (wx_and1 (tx_cmp ox_ninA (ex_var 3) (ex_sub (ex_var 4) (ex_var 5)))))))  (ex_var 3)))) (gx_sub (ex_var 4) (ex_var 5)))))))))
      (bx_one (sx_ret (ex_var 6))))))
theorem h__law_filled (G : Gl T ad fo ct) : FnD T 1 (ad "_law_filled") (fo "_law_filled") ["graph", "order"] m__law_filled := fnd_of G.f__law_filled.1 s__law_filled fun Wx => b__law_filled G (Nat.le_refl _) Wx
/-- _law_tasks_of -/
def N__law_tasks_of : List Str := ["graph", "order", "later", "found", "point", "many"]
noncomputable def l1__law_tasks_of : Sn := sSeq (fun ρ => sE (.bnd (.bnd (.bnd (getV ρ 2) fun a => .bnd (getV ρ 4) fun b => subD' a b) fun d => .bnd (.ret []) fun ds => .ret (d :: ds)) (arg1 lenD)) ρ fun d M => some (.nx (ρ.set 5 (some d)), M))
      (fun ρ => sE (.bnd (getV ρ 3) fun a => chkM isL a (.bnd (.bnd (.bnd (.bnd (.bnd (.bnd (.bnd (getV ρ 5) fun a => .bnd (.ret (.int 0)) fun b => gtD a b) boolD) fun z => cond z (.bnd (getV ρ 1) fun a => chkM isT a (.bnd (.bnd (.bnd (.bnd (getV ρ 2) fun a => .bnd (getV ρ 4) fun b => subD' a b) fun a => .bnd (.ret (.int 0)) fun b => subD' a b) fun d => .bnd (.ret []) fun ds => .ret (d :: ds)) fun ds => tixD a ds)) (.ret .non)) fun d => .bnd (.bnd (.bnd (.bnd (getV ρ 5) fun a => .bnd (.ret (.int 1)) fun b => addD a b) fun a => .bnd (.bnd (getV ρ 5) fun a => .bnd (.ret (.int 1)) fun b => addD a b) fun b => mulD a b) fun d => .bnd (.bnd (.bnd (getV ρ 5) fun a => .bnd (getV ρ 5) fun b => mulD a b) fun d => .bnd (.ret []) fun ds => .ret (d :: ds)) fun ds => .ret (d :: ds)) fun ds => .ret (d :: ds)) tupD) fun d => .bnd (.ret []) fun ds => .ret (d :: ds)) fun ds => appendD a ds)) ρ fun _ M => some (.nx ρ, M))
noncomputable def g__law_tasks_of : Sn := sSeq (fun ρ => sE (.bnd (.bnd (.bnd (getV ρ 0) fun d => .ret (unT d)) fun d => .bnd (.bnd (.bnd (getV ρ 1) fun d => .ret (unT d)) fun d => .bnd (.ret []) fun ds => .ret (d :: ds)) fun ds => .ret (d :: ds)) (m__law_filled)) ρ fun d M => some (.nx (ρ.set 2 (some d)), M))
      (sSeq (fun ρ => sE (.bnd (.ret []) newL) ρ fun d M => some (.nx (ρ.set 3 (some d)), M))
      (sSeq (sFor (fun ρ => .bnd (.bnd (getV ρ 1) fun d => .ret (unT d)) itD) (fun d ρ => .ret (ρ.set 4 (some d))) l1__law_tasks_of)
      (fun ρ => sE (.bnd (.bnd (getV ρ 3) fun d => .bnd (.ret []) fun ds => .ret (d :: ds)) (arg1 tupleD)) ρ fun d M => some (.ret d, M))))
theorem s__law_tasks_of : FnScope N__law_tasks_of ["graph", "order"] (defScope (top 32)) := ⟨by kernel_rfl, by kernel_rfl, by kernel_rfl, nd_of (by kernel_rfl), by kernel_rfl, par_ok (by kernel_rfl), nofree_ok (by kernel_rfl)⟩
noncomputable def m__law_tasks_of : List D → Mo D := fnD N__law_tasks_of g__law_tasks_of
theorem b__law_tasks_of (G : Gl T ad fo ct) {k : Nat} (hk : 1 ≤ k) (Wx : WX) : BX (T.sc N__law_tasks_of (defScope (top 32)) k Wx (fo "_law_tasks_of").code) (defBody (top 32)) g__law_tasks_of := by
  have nd : (T.sc N__law_tasks_of (defScope (top 32)) k Wx (fo "_law_tasks_of").code).N.Nodup := s__law_tasks_of.nd
  have H__law_filled := h__law_filled (T := T) G
  unfold g__law_tasks_of l1__law_tasks_of
  exact bx_cons (sx_set 2 nd (ex_call H__law_filled (show 1 ≤ k by omega) rfl G.f__law_filled.2.1 G.f__law_filled.2.2.1 G.f__law_filled.2.2.2 (ax_cons (ex_unT (ex_var 0)) (ax_cons (ex_unT (ex_var 1)) (ax_nil))) (fun _ _ _ _ h => len_cons (n := 1) (len_cons (n := 0) ln0) _ _ _ h)))
      (bx_cons (sx_set 3 nd (ex_lstM (ax_nil)))
      (bx_cons (sx_for rfl (ix_all (ex_unT (ex_var 1))) (gx_name 4 nd)
      (bx_cons (sx_set 5 nd (ex_callB cx_len rfl G.n_len rfl (ax_cons (ex_sub (ex_var 2) (ex_var 4)) (ax_nil))))
      (bx_one (sx_expr (ex_meth mx_append (ex_var 3) (ax_cons (ex_tup (ax_cons (ex_if (tx_cmp ox_gt (ex_var 5) (ex_int)) (ex_meth mx_tindex (ex_var 1) (ax_cons (ex_sub (ex_sub (ex_var 2) (ex_var 4)) (ex_int)) (ax_nil))) (ex_non)) (ax_cons (ex_op ox_mul (ex_op ox_add (ex_var 5) (ex_int)) (ex_op ox_add (ex_var 5) (ex_int))) (ax_cons (ex_op ox_mul (ex_var 5) (ex_var 5)) (ax_nil))))) (ax_nil)))))))
      (bx_one (sx_ret (ex_callTy cx_tuple rfl G.n_tuple rfl (ax_cons (ex_var 3) (ax_nil)))))))
theorem h__law_tasks_of (G : Gl T ad fo ct) : FnD T 2 (ad "_law_tasks_of") (fo "_law_tasks_of") ["graph", "order"] m__law_tasks_of := fnd_of G.f__law_tasks_of.1 s__law_tasks_of fun Wx => b__law_tasks_of G (Nat.le_refl _) Wx
/-- _law_order -/
def N__law_order : List Str := ["draws", "side"]
noncomputable def g__law_order : Sn := fun ρ => sE (.bnd (.bnd (.bnd (.bnd (getV ρ 0) fun d => .bnd (.bnd (.bnd (getV ρ 1) fun y => lrgD false (.int 0) y) fun d => .bnd (.ret []) fun ds => .ret (d :: ds)) fun ds => .ret (d :: ds)) (m__law_shuffled)) fun d => .bnd (.ret []) fun ds => .ret (d :: ds)) (arg1 tupleN)) ρ fun d M => some (.ret d, M)
theorem s__law_order : FnScope N__law_order ["draws", "side"] (defScope (top 33)) := ⟨by kernel_rfl, by kernel_rfl, by kernel_rfl, nd_of (by kernel_rfl), by kernel_rfl, par_ok (by kernel_rfl), nofree_ok (by kernel_rfl)⟩
noncomputable def m__law_order : List D → Mo D := fnD N__law_order g__law_order
theorem b__law_order (G : Gl T ad fo ct) {k : Nat} (hk : 2 ≤ k) (Wx : WX) : BX (T.sc N__law_order (defScope (top 33)) k Wx (fo "_law_order").code) (defBody (top 33)) g__law_order := by
  have nd : (T.sc N__law_order (defScope (top 33)) k Wx (fo "_law_order").code).N.Nodup := s__law_order.nd
  have H__law_shuffled := h__law_shuffled (T := T) G
  unfold g__law_order
  exact bx_one (sx_ret (ex_callTy cx_tupleN rfl G.n_tuple rfl (ax_cons (ex_call H__law_shuffled (show 2 ≤ k by omega) rfl G.f__law_shuffled.2.1 G.f__law_shuffled.2.2.1 G.f__law_shuffled.2.2.2 (ax_cons (ex_var 0) (ax_cons (ex_lrg1 false rfl G.n_list rfl G.n_range (ex_var 1)) (ax_nil))) (fun _ _ _ _ h => len_cons (n := 1) (len_cons (n := 0) ln0) _ _ _ h)) (ax_nil))))
theorem h__law_order (G : Gl T ad fo ct) : FnD T 3 (ad "_law_order") (fo "_law_order") ["draws", "side"] m__law_order := fnd_of G.f__law_order.1 s__law_order fun Wx => b__law_order G (Nat.le_refl _) Wx
/-- law -/
def N_law : List Str := ["script", "value", "point", "number", "draws", "points", "graph", "order", "tasks", "later", "up", "ways", "drawn_ones", "some", "tops", "good", "odd"]
noncomputable def l1_law : Sn := sSeq (fun ρ => sE (.bnd (.bnd (getV ρ 11) fun d => .ret (unT d)) fun a => chkM isL a (.bnd (.bnd (.bnd (.bnd (getV ρ 7) fun d => .ret (unT d)) fun a => .bnd (.bnd (getV ρ 10) fun d => .ret (unT d)) fun b => subD' a b) fun d => .bnd (.ret []) fun ds => .ret (d :: ds)) fun ds => appendD a ds)) ρ fun _ M => some (.nx ρ, M))
      (fun ρ => sE (.bnd (.bnd (getV ρ 8) fun a => .bnd (getV ρ 10) fun b => subD' a b) fun a => .bnd (.ret (.int 0)) fun b => subD' a b) ρ fun d M => some (.nx (ρ.set 10 (some d)), M))
noncomputable def l2_law : Sn := sSeq (fun ρ => sE (.bnd (.bnd (.bnd (.bnd (getV ρ 8) fun a => .bnd (getV ρ 3) fun b => subD' a b) fun a => .bnd (.ret (.int 0)) fun b => subD' a b) fun d => .bnd (.bnd (.bnd (.ret []) newL) fun d => .bnd (.ret []) fun ds => .ret (d :: ds)) fun ds => .ret (d :: ds)) tupD) ρ fun d => s0 ((fun d ρ => .bnd (itemsT 2 d) fun ds => (gConsD (fun d ρ => .ret (ρ.set 10 (some d))) (gConsD (fun d ρ => .ret (ρ.set 11 (some d))) gNilD)) ds ρ) d ρ))
      (sSeq (whileN (fun ρ => .bnd (.bnd (getV ρ 10) fun a => .bnd (.ret .non) fun b => isnD a b) boolD) l1_law 1000)
      (sIf (fun ρ => .bnd (.bnd (.bnd (.bnd (.bnd (.bnd (getV ρ 9) fun d => .ret (unT d)) fun a => .bnd (.bnd (.bnd (getV ρ 7) fun d => .ret (unT d)) fun a => .bnd (.bnd (getV ρ 3) fun d => .ret (unT d)) fun b => subD' a b) fun b => subD' a b) itD) fun it => cmpD false stL [] .lst .lst (compL it.gd (turn1 (wipeR ρ [2]) (fun d ρ => .ret (ρ.set 2 (some d))) (fun ρ => .bnd (.bnd (.bnd (getV ρ 2) fun d => .ret (unT d)) fun a => .bnd (.bnd (getV ρ 11) fun d => .ret (unT d)) fun b => ninAll a b) boolD) (one' fun ρ => .bnd (getV ρ 2) fun d => .ret (unT d))) it.items)) fun a => .bnd (.bnd (.ret []) lstD) fun b => neD a b) boolD)
      (fun ρ => sE (.ret (.bl false)) ρ fun d M => some (.ret d, M))
      (sNext)))
noncomputable def l3_law : Sn := sSeq (fun ρ => sE (.bnd (.bnd (.bnd (.bnd (.bnd (.bnd (.bnd (getV ρ 13) fun d => .bnd (.ret []) fun ds => .ret (d :: ds)) (arg1 lenD)) fun d => .bnd (.ret []) fun ds => .ret (d :: ds)) rngD1) fun it => cmpD false stL [] .lst .lst (compL it.gd (turn1 (wipeR ρ [3]) (fun d ρ => .ret (ρ.set 3 (some d))) (fun ρ => .bnd (.bnd (.bnd (.bnd (getV ρ 13) fun a => .bnd (getV ρ 3) fun b => subD' a b) fun a => .bnd (.ret (.int 0)) fun b => subD' a b) fun a => .bnd (.ret .non) fun b => isD a b) boolD) (one' fun ρ => getV ρ 3)) it.items)) fun d => .bnd (.ret []) fun ds => .ret (d :: ds)) (arg1 tupleD)) ρ fun d M => some (.nx (ρ.set 14 (some d)), M))
      (sIf (fun ρ => .bnd (.bnd (.bnd (.bnd (.bnd (getV ρ 13) fun d => .bnd (.ret []) fun ds => .ret (d :: ds)) (m_are_tasks)) fun a => .bnd (.ret (.bl true)) fun b => isnD a b) boolD) fun z => cond z (.ret true) (.bnd (.bnd (.bnd (.bnd (.bnd (.bnd (.bnd (.bnd (getV ρ 13) fun d => .bnd (.ret []) fun ds => .ret (d :: ds)) (m_children_in)) fun d => .bnd (.bnd (.bnd (.bnd (getV ρ 13) fun d => .bnd (.ret []) fun ds => .ret (d :: ds)) (m_tops_in)) fun d => .bnd (.ret []) fun ds => .ret (d :: ds)) fun ds => .ret (d :: ds)) lstD) fun d => .bnd (.bnd (.bnd (.bnd (.bnd (.bnd (.bnd (.bnd (getV ρ 13) fun d => .bnd (.ret []) fun ds => .ret (d :: ds)) (m__law_children)) fun d => .bnd (.ret []) fun ds => .ret (d :: ds)) (arg1 tupleD)) fun d => .bnd (.bnd (getV ρ 14) fun d => .bnd (.ret []) fun ds => .ret (d :: ds)) fun ds => .ret (d :: ds)) lstD) fun d => .bnd (.ret []) fun ds => .ret (d :: ds)) fun ds => .ret (d :: ds)) (m__law_alike 9)) boolD) fun b => .ret (!b)))
      (fun ρ => sE (.ret (.bl false)) ρ fun d M => some (.ret d, M))
      (sNext))
noncomputable def g_law : Sn := sSeq (fun ρ => sE (.bnd (.bnd (getV ρ 0) fun d => .bnd (.ret []) fun ds => .ret (d :: ds)) (m__law_draws)) ρ fun d M => some (.nx (ρ.set 4 (some d)), M))
      (sSeq (fun ρ => sE (.bnd (.bnd (getV ρ 4) fun d => .bnd (.bnd (.ret (.int 9)) fun d => .bnd (.ret []) fun ds => .ret (d :: ds)) fun ds => .ret (d :: ds)) (m__law_take)) ρ fun d M => some (.nx (ρ.set 5 (some d)), M))
      (sSeq (fun ρ => sE (.bnd (.bnd (.bnd (getV ρ 4) fun d => .bnd (.bnd (getV ρ 5) fun d => .bnd (.bnd (.bnd (.bnd (.bnd (.ret (.int 15)) fun d => .bnd (.bnd (.ret (.int 30)) fun d => .bnd (.bnd (.ret (.int 60)) fun d => .bnd (.ret []) fun ds => .ret (d :: ds)) fun ds => .ret (d :: ds)) fun ds => .ret (d :: ds)) lstD) fun a => .bnd (.bnd (.bnd (getV ρ 4) fun d => .bnd (.bnd (.ret (.int 3)) fun d => .bnd (.ret []) fun ds => .ret (d :: ds)) fun ds => .ret (d :: ds)) (m__law_take)) fun b => subD' a b) fun d => .bnd (.ret []) fun ds => .ret (d :: ds)) fun ds => .ret (d :: ds)) fun ds => .ret (d :: ds)) (m__law_graph)) fun d => .bnd (.bnd (.bnd (.bnd (getV ρ 4) fun d => .bnd (.bnd (getV ρ 5) fun d => .bnd (.ret []) fun ds => .ret (d :: ds)) fun ds => .ret (d :: ds)) (m__law_order)) fun d => .bnd (.ret []) fun ds => .ret (d :: ds)) fun ds => .ret (d :: ds)) ρ (par2 6 7 ρ))
      (sSeq (fun ρ => sE (.bnd (.bnd (.bnd (.bnd (getV ρ 6) fun d => .ret (unT d)) fun d => .bnd (.bnd (.bnd (getV ρ 7) fun d => .ret (unT d)) fun d => .bnd (.ret []) fun ds => .ret (d :: ds)) fun ds => .ret (d :: ds)) (m_tasks_of)) fun d => .bnd (.bnd (.bnd (.bnd (.bnd (getV ρ 6) fun d => .ret (unT d)) fun d => .bnd (.bnd (.bnd (getV ρ 7) fun d => .ret (unT d)) fun d => .bnd (.ret []) fun ds => .ret (d :: ds)) fun ds => .ret (d :: ds)) (m__law_filled)) fun d => .bnd (.ret []) fun ds => .ret (d :: ds)) fun ds => .ret (d :: ds)) ρ (par2 8 9 ρ))
      (sSeq (sIf (fun ρ => .bnd (.bnd (.bnd (.bnd (.bnd (getV ρ 8) fun d => .bnd (.bnd (.bnd (.bnd (getV ρ 6) fun d => .bnd (.bnd (getV ρ 7) fun d => .bnd (.ret []) fun ds => .ret (d :: ds)) fun ds => .ret (d :: ds)) (m__law_tasks_of)) fun d => .bnd (.ret []) fun ds => .ret (d :: ds)) fun ds => .ret (d :: ds)) (m__law_alike 9)) boolD) fun b => .ret (!b)) fun z => cond z (.ret true) (.bnd (.bnd (.bnd (.bnd (getV ρ 8) fun d => .bnd (.ret []) fun ds => .ret (d :: ds)) (m_are_tasks)) fun a => .bnd (.ret (.bl true)) fun b => isnD a b) boolD))
      (fun ρ => sE (.ret (.bl false)) ρ fun d M => some (.ret d, M))
      (sNext))
      (sSeq (sFor (fun ρ => .bnd (.bnd (getV ρ 5) fun d => .bnd (.ret []) fun ds => .ret (d :: ds)) rngD1) (fun d ρ => .ret (ρ.set 3 (some d))) l2_law)
      (sSeq (fun ρ => sE (.bnd (.bnd (getV ρ 4) fun d => .bnd (.bnd (.ret (.int 9)) fun d => .bnd (.bnd (.ret (.int 12)) fun d => .bnd (.ret []) fun ds => .ret (d :: ds)) fun ds => .ret (d :: ds)) fun ds => .ret (d :: ds)) (m__law_tasks)) ρ fun d M => some (.nx (ρ.set 12 (some d)), M))
      (sSeq (sFor (fun ρ => .bnd (.bnd (.bnd (getV ρ 8) fun d => .bnd (.bnd (getV ρ 12) fun d => .bnd (.ret []) fun ds => .ret (d :: ds)) fun ds => .ret (d :: ds)) lstD) itD) (fun d ρ => .ret (ρ.set 13 (some d))) l3_law)
      (sSeq (fun ρ => sE (.bnd (.bnd (.bnd (.bnd (.ret (.int 1)) fun d => .bnd (.bnd (.ret (.int 5)) fun d => .bnd (.bnd (.ret (.int 2)) fun d => .bnd (.ret []) fun ds => .ret (d :: ds)) fun ds => .ret (d :: ds)) fun ds => .ret (d :: ds)) tupD) fun d => .bnd (.bnd (.bnd (.bnd (.ret .non) fun d => .bnd (.bnd (.ret (.int 3)) fun d => .bnd (.bnd (.ret (.int 0)) fun d => .bnd (.ret []) fun ds => .ret (d :: ds)) fun ds => .ret (d :: ds)) fun ds => .ret (d :: ds)) tupD) fun d => .bnd (.ret []) fun ds => .ret (d :: ds)) fun ds => .ret (d :: ds)) tupD) ρ fun d M => some (.nx (ρ.set 15 (some d)), M))
      (sSeq (fun ρ => sE (.bnd (.bnd (.ret .non) fun d => .bnd (.bnd (.bnd (.bnd (getV ρ 15) fun d => .bnd (.ret []) fun ds => .ret (d :: ds)) (arg1 (listA false))) fun d => .bnd (.bnd (.bnd (getV ρ 15) fun a => .bnd (.bnd (.bnd (.ret .non) fun d => .bnd (.ret []) fun ds => .ret (d :: ds)) tupD) fun b => addD a b) fun d => .bnd (.bnd (.bnd (getV ρ 15) fun a => .bnd (.bnd (.bnd (.bnd (.bnd (.ret .non) fun d => .bnd (.bnd (.ret (.int 1)) fun d => .bnd (.ret []) fun ds => .ret (d :: ds)) fun ds => .ret (d :: ds)) tupD) fun d => .bnd (.ret []) fun ds => .ret (d :: ds)) tupD) fun b => addD a b) fun d => .bnd (.bnd (.bnd (getV ρ 15) fun a => .bnd (.bnd (.bnd (.bnd (.bnd (.ret .non) fun d => .bnd (.bnd (.ret (.int 1)) fun d => .bnd (.bnd (.ret (.int 0)) fun d => .bnd (.bnd (.ret (.int 0)) fun d => .bnd (.ret []) fun ds => .ret (d :: ds)) fun ds => .ret (d :: ds)) fun ds => .ret (d :: ds)) fun ds => .ret (d :: ds)) tupD) fun d => .bnd (.ret []) fun ds => .ret (d :: ds)) tupD) fun b => addD a b) fun d => .bnd (.bnd (.bnd (getV ρ 15) fun a => .bnd (.bnd (.bnd (.bnd (.bnd (.ret .non) fun d => .bnd (.bnd (.ret (.int 1)) fun d => .bnd (.bnd (.ret (.int 0)) fun d => .bnd (.ret []) fun ds => .ret (d :: ds)) fun ds => .ret (d :: ds)) fun ds => .ret (d :: ds)) lstD) fun d => .bnd (.ret []) fun ds => .ret (d :: ds)) tupD) fun b => addD a b) fun d => .bnd (.bnd (.bnd (.bnd (.bnd (.bnd (.bnd (.ret (.int 2)) fun d => .bnd (.bnd (.ret (.int 5)) fun d => .bnd (.bnd (.ret (.int 2)) fun d => .bnd (.ret []) fun ds => .ret (d :: ds)) fun ds => .ret (d :: ds)) fun ds => .ret (d :: ds)) tupD) fun d => .bnd (.ret []) fun ds => .ret (d :: ds)) tupD) fun a => .bnd (.bnd (getV ρ 15) fun a => .bnd (.bnd (.ret (.int 1)) partD) fun l => .bnd (.ret none) fun h => sliceD a l h) fun b => addD a b) fun d => .bnd (.ret []) fun ds => .ret (d :: ds)) fun ds => .ret (d :: ds)) fun ds => .ret (d :: ds)) fun ds => .ret (d :: ds)) fun ds => .ret (d :: ds)) fun ds => .ret (d :: ds)) fun ds => .ret (d :: ds)) lstD) ρ fun d M => some (.nx (ρ.set 16 (some d)), M))
      (sSeq (fun ρ => sE (.bnd (getV ρ 16) fun a => .bnd (.bnd (.bnd (.bnd (.bnd (.bnd (.bnd (.bnd (.ret (.int 0)) fun d => .bnd (.bnd (.ret (.int 5)) fun d => .bnd (.bnd (.ret (.int 2)) fun d => .bnd (.ret []) fun ds => .ret (d :: ds)) fun ds => .ret (d :: ds)) fun ds => .ret (d :: ds)) tupD) fun d => .bnd (.ret []) fun ds => .ret (d :: ds)) tupD) fun a => .bnd (.bnd (getV ρ 15) fun a => .bnd (.bnd (.ret (.int 1)) partD) fun l => .bnd (.ret none) fun h => sliceD a l h) fun b => addD a b) fun d => .bnd (.bnd (.bnd (.bnd (.bnd (.bnd (.bnd (.bnd (.ret (.int 1)) fun a => negD a) fun d => .bnd (.bnd (.ret (.int 5)) fun d => .bnd (.bnd (.ret (.int 2)) fun d => .bnd (.ret []) fun ds => .ret (d :: ds)) fun ds => .ret (d :: ds)) fun ds => .ret (d :: ds)) tupD) fun d => .bnd (.ret []) fun ds => .ret (d :: ds)) tupD) fun a => .bnd (.bnd (getV ρ 15) fun a => .bnd (.bnd (.ret (.int 1)) partD) fun l => .bnd (.ret none) fun h => sliceD a l h) fun b => addD a b) fun d => .bnd (.ret []) fun ds => .ret (d :: ds)) fun ds => .ret (d :: ds)) lstD) fun b => addD a b) ρ fun d M => some (.nx (ρ.set 16 (some d)), M))
      (sSeq (fun ρ => sE (.bnd (getV ρ 16) fun a => .bnd (.bnd (.bnd (.bnd (.bnd (.bnd (.bnd (.bnd (.ret (.bl true)) fun d => .bnd (.bnd (.ret (.int 5)) fun d => .bnd (.bnd (.ret (.int 2)) fun d => .bnd (.ret []) fun ds => .ret (d :: ds)) fun ds => .ret (d :: ds)) fun ds => .ret (d :: ds)) tupD) fun d => .bnd (.ret []) fun ds => .ret (d :: ds)) tupD) fun a => .bnd (.bnd (getV ρ 15) fun a => .bnd (.bnd (.ret (.int 1)) partD) fun l => .bnd (.ret none) fun h => sliceD a l h) fun b => addD a b) fun d => .bnd (.bnd (.bnd (.bnd (.bnd (.bnd (.bnd (.ret (.str "1")) fun d => .bnd (.bnd (.ret (.int 5)) fun d => .bnd (.bnd (.ret (.int 2)) fun d => .bnd (.ret []) fun ds => .ret (d :: ds)) fun ds => .ret (d :: ds)) fun ds => .ret (d :: ds)) tupD) fun d => .bnd (.ret []) fun ds => .ret (d :: ds)) tupD) fun a => .bnd (.bnd (getV ρ 15) fun a => .bnd (.bnd (.ret (.int 1)) partD) fun l => .bnd (.ret none) fun h => sliceD a l h) fun b => addD a b) fun d => .bnd (.bnd (.bnd (.bnd (.bnd (.bnd (.bnd (.ret (.int 1)) fun d => .bnd (.bnd (.ret (.int 5)) fun d => .bnd (.bnd (.ret (.int 6)) fun d => .bnd (.ret []) fun ds => .ret (d :: ds)) fun ds => .ret (d :: ds)) fun ds => .ret (d :: ds)) tupD) fun d => .bnd (.ret []) fun ds => .ret (d :: ds)) tupD) fun a => .bnd (.bnd (getV ρ 15) fun a => .bnd (.bnd (.ret (.int 1)) partD) fun l => .bnd (.ret none) fun h => sliceD a l h) fun b => addD a b) fun d => .bnd (.bnd (.bnd (.bnd (.bnd (.bnd (.bnd (.ret (.int 1)) fun d => .bnd (.bnd (.bnd (.ret (.int 1)) fun a => negD a) fun d => .bnd (.bnd (.ret (.int 0)) fun d => .bnd (.ret []) fun ds => .ret (d :: ds)) fun ds => .ret (d :: ds)) fun ds => .ret (d :: ds)) tupD) fun d => .bnd (.ret []) fun ds => .ret (d :: ds)) tupD) fun a => .bnd (.bnd (getV ρ 15) fun a => .bnd (.bnd (.ret (.int 1)) partD) fun l => .bnd (.ret none) fun h => sliceD a l h) fun b => addD a b) fun d => .bnd (.bnd (.bnd (.bnd (.bnd (.bnd (.bnd (.ret (.int 1)) fun d => .bnd (.bnd (.ret (.int 5)) fun d => .bnd (.bnd (.bnd (.ret (.int 1)) fun a => negD a) fun d => .bnd (.ret []) fun ds => .ret (d :: ds)) fun ds => .ret (d :: ds)) fun ds => .ret (d :: ds)) tupD) fun d => .bnd (.ret []) fun ds => .ret (d :: ds)) tupD) fun a => .bnd (.bnd (getV ρ 15) fun a => .bnd (.bnd (.ret (.int 1)) partD) fun l => .bnd (.ret none) fun h => sliceD a l h) fun b => addD a b) fun d => .bnd (.bnd (.bnd (.bnd (.bnd (.bnd (.bnd (.ret (.int 1)) fun d => .bnd (.bnd (.bnd (.bnd (.ret (.int 10)) fun a => .bnd (.ret (.int 6)) fun b => powD a b) fun a => .bnd (.ret (.int 1)) fun b => addD a b) fun d => .bnd (.bnd (.ret (.int 0)) fun d => .bnd (.ret []) fun ds => .ret (d :: ds)) fun ds => .ret (d :: ds)) fun ds => .ret (d :: ds)) tupD) fun d => .bnd (.ret []) fun ds => .ret (d :: ds)) tupD) fun a => .bnd (.bnd (getV ρ 15) fun a => .bnd (.bnd (.ret (.int 1)) partD) fun l => .bnd (.ret none) fun h => sliceD a l h) fun b => addD a b) fun d => .bnd (.ret []) fun ds => .ret (d :: ds)) fun ds => .ret (d :: ds)) fun ds => .ret (d :: ds)) fun ds => .ret (d :: ds)) fun ds => .ret (d :: ds)) fun ds => .ret (d :: ds)) lstD) fun b => addD a b) ρ fun d M => some (.nx (ρ.set 16 (some d)), M))
      (sSeq (fun ρ => sE (.bnd (getV ρ 16) fun a => .bnd (.bnd (.bnd (.bnd (.bnd (.bnd (.bnd (.bnd (.ret (.int 1)) fun d => .bnd (.bnd (.ret .non) fun d => .bnd (.bnd (.ret (.int 0)) fun d => .bnd (.ret []) fun ds => .ret (d :: ds)) fun ds => .ret (d :: ds)) fun ds => .ret (d :: ds)) tupD) fun d => .bnd (.ret []) fun ds => .ret (d :: ds)) tupD) fun a => .bnd (.bnd (getV ρ 15) fun a => .bnd (.bnd (.ret (.int 1)) partD) fun l => .bnd (.ret none) fun h => sliceD a l h) fun b => addD a b) fun d => .bnd (.bnd (.bnd (.bnd (getV ρ 15) fun a => .bnd (.ret none) fun l => .bnd (.bnd (.ret (.int 1)) partD) fun h => sliceD a l h) fun a => .bnd (.bnd (.bnd (.bnd (.bnd (.ret (.int 1)) fun d => .bnd (.bnd (.ret (.int 3)) fun d => .bnd (.bnd (.ret (.int 0)) fun d => .bnd (.ret []) fun ds => .ret (d :: ds)) fun ds => .ret (d :: ds)) fun ds => .ret (d :: ds)) tupD) fun d => .bnd (.ret []) fun ds => .ret (d :: ds)) tupD) fun b => addD a b) fun d => .bnd (.bnd (.bnd (getV ρ 15) fun a => .bnd (.ret none) fun l => .bnd (.bnd (.ret (.int 1)) partD) fun h => sliceD a l h) fun d => .bnd (.bnd (.bnd (.bnd (.bnd (.bnd (.bnd (.ret .non) fun d => .bnd (.bnd (.ret (.int 0)) fun d => .bnd (.bnd (.ret (.int 0)) fun d => .bnd (.ret []) fun ds => .ret (d :: ds)) fun ds => .ret (d :: ds)) fun ds => .ret (d :: ds)) tupD) fun d => .bnd (.ret []) fun ds => .ret (d :: ds)) tupD) fun a => .bnd (.ret (.int 61)) fun b => repD false a b) fun d => .bnd (.bnd (.ret (.int 5)) fun d => .bnd (.ret []) fun ds => .ret (d :: ds)) fun ds => .ret (d :: ds)) fun ds => .ret (d :: ds)) fun ds => .ret (d :: ds)) fun ds => .ret (d :: ds)) lstD) fun b => addD a b) ρ fun d M => some (.nx (ρ.set 16 (some d)), M))
      (sSeq (sIf (fun ρ => .bnd (.bnd (.bnd (.bnd (getV ρ 16) itD) fun it => cmpD false stL [] .lst .lst (compL it.gd (turn1 (wipeR ρ [1]) (fun d ρ => .ret (ρ.set 1 (some d))) (fun ρ => .bnd (.bnd (.bnd (.bnd (getV ρ 1) fun d => .bnd (.ret []) fun ds => .ret (d :: ds)) (m_are_tasks)) fun a => .bnd (.ret (.bl false)) fun b => isnD a b) boolD) (one' fun ρ => getV ρ 1)) it.items)) fun a => .bnd (.bnd (.ret []) lstD) fun b => neD a b) boolD)
      (fun ρ => sE (.ret (.bl false)) ρ fun d M => some (.ret d, M))
      (sNext))
      (fun ρ => sE (.bnd (.bnd (.bnd (.bnd (.bnd (.bnd (.ret []) tupD) fun d => .bnd (.bnd (getV ρ 15) fun d => .bnd (.bnd (.bnd (.bnd (.bnd (.bnd (.bnd (.ret .non) fun d => .bnd (.bnd (.ret (.int 0)) fun d => .bnd (.bnd (.ret (.int 0)) fun d => .bnd (.ret []) fun ds => .ret (d :: ds)) fun ds => .ret (d :: ds)) fun ds => .ret (d :: ds)) tupD) fun d => .bnd (.ret []) fun ds => .ret (d :: ds)) tupD) fun a => .bnd (.ret (.int 60)) fun b => repD false a b) fun d => .bnd (.bnd (.bnd (.bnd (.bnd (.bnd (.ret (.int 1)) fun d => .bnd (.bnd (.bnd (.ret (.int 10)) fun a => .bnd (.ret (.int 6)) fun b => powD a b) fun d => .bnd (.bnd (.bnd (.ret (.int 10)) fun a => .bnd (.ret (.int 6)) fun b => powD a b) fun d => .bnd (.ret []) fun ds => .ret (d :: ds)) fun ds => .ret (d :: ds)) fun ds => .ret (d :: ds)) tupD) fun d => .bnd (.bnd (.bnd (.bnd (.ret .non) fun d => .bnd (.bnd (.ret (.int 0)) fun d => .bnd (.bnd (.ret (.int 0)) fun d => .bnd (.ret []) fun ds => .ret (d :: ds)) fun ds => .ret (d :: ds)) fun ds => .ret (d :: ds)) tupD) fun d => .bnd (.ret []) fun ds => .ret (d :: ds)) fun ds => .ret (d :: ds)) tupD) fun d => .bnd (.ret []) fun ds => .ret (d :: ds)) fun ds => .ret (d :: ds)) fun ds => .ret (d :: ds)) fun ds => .ret (d :: ds)) lstD) itD) fun it => cmpD false stL [] .lst .lst (compL it.gd (turn1 (wipeR ρ [1]) (fun d ρ => .ret (ρ.set 1 (some d))) (fun ρ => .bnd (.bnd (.bnd (.bnd (getV ρ 1) fun d => .bnd (.ret []) fun ds => .ret (d :: ds)) (m_are_tasks)) fun a => .bnd (.ret (.bl true)) fun b => isnD a b) boolD) (one' fun ρ => getV ρ 1)) it.items)) fun a => .bnd (.bnd (.ret []) lstD) fun b => eqD a b) ρ fun d M => some (.ret d, M)))))))))))))))
theorem s_law : FnScope N_law ["script"] (defScope (top 34)) := ⟨by kernel_rfl, by kernel_rfl, by kernel_rfl, nd_of (by kernel_rfl), by kernel_rfl, par_ok (by kernel_rfl), nofree_ok (by kernel_rfl)⟩
noncomputable def m_law : List D → Mo D := fnD N_law g_law
theorem b_law (G : Gl T ad fo ct) {k : Nat} (hk : 10 ≤ k) (Wx : WX) : BX (T.sc N_law (defScope (top 34)) k Wx (fo "law").code) (defBody (top 34)) g_law := by
  have nd : (T.sc N_law (defScope (top 34)) k Wx (fo "law").code).N.Nodup := s_law.nd
  have H__law_alike := h__law_alike (T := T) G 9
  have H__law_children := h__law_children (T := T) G
  have H__law_draws := h__law_draws (T := T) G
  have H__law_filled := h__law_filled (T := T) G
  have H__law_graph := h__law_graph (T := T) G
  have H__law_order := h__law_order (T := T) G
  have H__law_take := h__law_take (T := T) G
  have H__law_tasks := h__law_tasks (T := T) G
  have H__law_tasks_of := h__law_tasks_of (T := T) G
  have H_are_tasks := h_are_tasks (T := T) G
  have H_children_in := h_children_in (T := T) G
  have H_tasks_of := h_tasks_of (T := T) G
  have H_tops_in := h_tops_in (T := T) G
  unfold g_law l3_law l2_law l1_law
  exact bx_cons (sx_set 4 nd (ex_call H__law_draws (show 1 ≤ k by omega) rfl G.f__law_draws.2.1 G.f__law_draws.2.2.1 G.f__law_draws.2.2.2 (ax_cons (ex_var 0) (ax_nil)) (fun _ _ _ _ h => len_cons (n := 0) ln0 _ _ _ h)))
      (bx_cons (sx_set 5 nd (ex_call H__law_take (show 1 ≤ k by omega) rfl G.f__law_take.2.1 G.f__law_take.2.2.1 G.f__law_take.2.2.2 (ax_cons (ex_var 4) (ax_cons (ex_int) (ax_nil))) (fun _ _ _ _ h => len_cons (n := 1) (len_cons (n := 0) ln0) _ _ _ h)))
      (bx_cons (sx_par 6 7 nd (ax_cons (ex_call H__law_graph (show 2 ≤ k by omega) rfl G.f__law_graph.2.1 G.f__law_graph.2.2.1 G.f__law_graph.2.2.2 (ax_cons (ex_var 4) (ax_cons (ex_var 5) (ax_cons (ex_sub (ex_lst (ax_cons (ex_int) (ax_cons (ex_int) (ax_cons (ex_int) (ax_nil))))) (ex_call H__law_take (show 1 ≤ k by omega) rfl G.f__law_take.2.1 G.f__law_take.2.2.1 G.f__law_take.2.2.2 (ax_cons (ex_var 4) (ax_cons (ex_int) (ax_nil))) (fun _ _ _ _ h => len_cons (n := 1) (len_cons (n := 0) ln0) _ _ _ h))) (ax_nil)))) (fun _ _ _ _ h => len_cons (n := 2) (len_cons (n := 1) (len_cons (n := 0) ln0)) _ _ _ h)) (ax_cons (ex_call H__law_order (show 3 ≤ k by omega) rfl G.f__law_order.2.1 G.f__law_order.2.2.1 G.f__law_order.2.2.2 (ax_cons (ex_var 4) (ax_cons (ex_var 5) (ax_nil))) (fun _ _ _ _ h => len_cons (n := 1) (len_cons (n := 0) ln0) _ _ _ h)) (ax_nil))) (hw := fun X c => (sws_sc c _ _).trans (by kernel_rfl)))
      (bx_cons (sx_par 8 9 nd (ax_cons (ex_call H_tasks_of (show 8 ≤ k by omega) rfl G.f_tasks_of.2.1 G.f_tasks_of.2.2.1 G.f_tasks_of.2.2.2 (ax_cons (ex_unT (ex_var 6)) (ax_cons (ex_unT (ex_var 7)) (ax_nil))) (fun _ _ _ _ h => len_cons (n := 1) (len_cons (n := 0) ln0) _ _ _ h)) (ax_cons (ex_call H__law_filled (show 1 ≤ k by omega) rfl G.f__law_filled.2.1 G.f__law_filled.2.2.1 G.f__law_filled.2.2.2 (ax_cons (ex_unT (ex_var 6)) (ax_cons (ex_unT (ex_var 7)) (ax_nil))) (fun _ _ _ _ h => len_cons (n := 1) (len_cons (n := 0) ln0) _ _ _ h)) (ax_nil))) (hw := fun X c => (sws_sc c _ _).trans (by kernel_rfl)))
      (bx_cons (sx_if (tx_w (wx_or (tx_not (tx_bool (ex_call H__law_alike (show 10 ≤ k by omega) rfl G.f__law_alike.2.1 G.f__law_alike.2.2.1 G.f__law_alike.2.2.2 (ax_cons (ex_var 8) (ax_cons (ex_call H__law_tasks_of (show 2 ≤ k by omega) rfl G.f__law_tasks_of.2.1 G.f__law_tasks_of.2.2.1 G.f__law_tasks_of.2.2.2 (ax_cons (ex_var 6) (ax_cons (ex_var 7) (ax_nil))) (fun _ _ _ _ h => len_cons (n := 1) (len_cons (n := 0) ln0) _ _ _ h)) (ax_nil))) (fun _ _ _ _ h => len_cons (n := 1) (len_cons (n := 0) ln0) _ _ _ h)))) (wx_or1 (tx_cmp ox_isn (ex_call H_are_tasks (show 2 ≤ k by omega) rfl G.f_are_tasks.2.1 G.f_are_tasks.2.2.1 G.f_are_tasks.2.2.2 (ax_cons (ex_var 8) (ax_nil)) (fun _ _ _ _ h => len_cons (n := 0) ln0 _ _ _ h)) (ex_bl)))))
      (bx_one (sx_ret (ex_bl)))
      (bx_nil))
      (bx_cons (sx_for rfl (ix_range1 rfl G.n_range (ax_cons (ex_var 5) (ax_nil))) (gx_name 3 nd)
      (bx_cons (sx_asg (ex_tup (ax_cons (ex_sub (ex_sub (ex_var 8) (ex_var 3)) (ex_int)) (ax_cons (ex_lstM (ax_nil)) (ax_nil)))) (gx_tup (n := 2) (gxs_cons (gx_name 10 nd) (gxs_cons (gx_name 11 nd) (gxs_nil)))) (hw := fun X c => (sws_sc c _ _).trans (by kernel_rfl)))
      (bx_cons (sx_while 1000 rfl (tx_cmp ox_isn (ex_var 10) (ex_non))
      (bx_cons (sx_expr (ex_meth mx_append (ex_unT (ex_var 11)) (ax_cons (ex_sub (ex_unT (ex_var 7)) (ex_unT (ex_var 10))) (ax_nil))))
      (bx_one (sx_set 10 nd (ex_sub (ex_sub (ex_var 8) (ex_var 10)) (ex_int))))))
      (bx_one (sx_if (tx_cmp ox_ne (ex_lx (lx_l1 false [("point", 2)]  nd (blk_ok (by kernel_rfl))  (ix_all (ex_sub (ex_unT (ex_var 9)) (ex_sub (ex_unT (ex_var 7)) (ex_unT (ex_var 3))))) (gv_name 2 nd) (txs_one (tx_cmp ox_ninA (ex_unT (ex_var 2)) (ex_unT (ex_var 11))))  (ex_unT (ex_var 2)))) (ex_lst (ax_nil)))
      (bx_one (sx_ret (ex_bl)))
      (bx_nil))))))
      (bx_cons (sx_set 12 nd (ex_call H__law_tasks (show 2 ≤ k by omega) rfl G.f__law_tasks.2.1 G.f__law_tasks.2.2.1 G.f__law_tasks.2.2.2 (ax_cons (ex_var 4) (ax_cons (ex_int) (ax_cons (ex_int) (ax_nil)))) (fun _ _ _ _ h => len_cons (n := 2) (len_cons (n := 1) (len_cons (n := 0) ln0)) _ _ _ h)))
      (bx_cons (sx_for rfl (ix_all (ex_lst (ax_cons (ex_var 8) (ax_cons (ex_var 12) (ax_nil))))) (gx_name 13 nd)
      (bx_cons (sx_set 14 nd (ex_callTy cx_tuple rfl G.n_tuple rfl (ax_cons (ex_lx (lx_l1 false [("number", 3)]  nd (blk_ok (by kernel_rfl))  (ix_range1 rfl G.n_range (ax_cons (ex_callB cx_len rfl G.n_len rfl (ax_cons (ex_var 13) (ax_nil))) (ax_nil))) (gv_name 3 nd) (txs_one (tx_cmp ox_is (ex_sub (ex_sub (ex_var 13) (ex_var 3)) (ex_int)) (ex_non)))  (ex_var 3))) (ax_nil))))
      (bx_one (sx_if (tx_w (wx_or (tx_cmp ox_isn (ex_call H_are_tasks (show 2 ≤ k by omega) rfl G.f_are_tasks.2.1 G.f_are_tasks.2.2.1 G.f_are_tasks.2.2.2 (ax_cons (ex_var 13) (ax_nil)) (fun _ _ _ _ h => len_cons (n := 0) ln0 _ _ _ h)) (ex_bl)) (wx_or1 (tx_not (tx_bool (ex_call H__law_alike (show 10 ≤ k by omega) rfl G.f__law_alike.2.1 G.f__law_alike.2.2.1 G.f__law_alike.2.2.2 (ax_cons (ex_lst (ax_cons (ex_call H_children_in (show 1 ≤ k by omega) rfl G.f_children_in.2.1 G.f_children_in.2.2.1 G.f_children_in.2.2.2 (ax_cons (ex_var 13) (ax_nil)) (fun _ _ _ _ h => len_cons (n := 0) ln0 _ _ _ h)) (ax_cons (ex_call H_tops_in (show 1 ≤ k by omega) rfl G.f_tops_in.2.1 G.f_tops_in.2.2.1 G.f_tops_in.2.2.2 (ax_cons (ex_var 13) (ax_nil)) (fun _ _ _ _ h => len_cons (n := 0) ln0 _ _ _ h)) (ax_nil)))) (ax_cons (ex_lst (ax_cons (ex_callTy cx_tuple rfl G.n_tuple rfl (ax_cons (ex_call H__law_children (show 1 ≤ k by omega) rfl G.f__law_children.2.1 G.f__law_children.2.2.1 G.f__law_children.2.2.2 (ax_cons (ex_var 13) (ax_nil)) (fun _ _ _ _ h => len_cons (n := 0) ln0 _ _ _ h)) (ax_nil))) (ax_cons (ex_var 14) (ax_nil)))) (ax_nil))) (fun _ _ _ _ h => len_cons (n := 1) (len_cons (n := 0) ln0) _ _ _ h)))))))
      (bx_one (sx_ret (ex_bl)))
      (bx_nil)))))
      (bx_cons (sx_set 15 nd (ex_tup (ax_cons (ex_tup (ax_cons (ex_int) (ax_cons (ex_int) (ax_cons (ex_int) (ax_nil))))) (ax_cons (ex_tup (ax_cons (ex_non) (ax_cons (ex_int) (ax_cons (ex_int) (ax_nil))))) (ax_nil)))))
      (bx_cons (sx_set 16 nd (ex_lst (ax_cons (ex_non) (ax_cons (ex_callTy (cx_listA false) rfl G.n_list rfl (ax_cons (ex_var 15) (ax_nil))) (ax_cons (ex_op ox_add (ex_var 15) (ex_tup (ax_cons (ex_non) (ax_nil)))) (ax_cons (ex_op ox_add (ex_var 15) (ex_tup (ax_cons (ex_tup (ax_cons (ex_non) (ax_cons (ex_int) (ax_nil)))) (ax_nil)))) (ax_cons (ex_op ox_add (ex_var 15) (ex_tup (ax_cons (ex_tup (ax_cons (ex_non) (ax_cons (ex_int) (ax_cons (ex_int) (ax_cons (ex_int) (ax_nil)))))) (ax_nil)))) (ax_cons (ex_op ox_add (ex_var 15) (ex_tup (ax_cons (ex_lst (ax_cons (ex_non) (ax_cons (ex_int) (ax_cons (ex_int) (ax_nil))))) (ax_nil)))) (ax_cons (ex_op ox_add (ex_tup (ax_cons (ex_tup (ax_cons (ex_int) (ax_cons (ex_int) (ax_cons (ex_int) (ax_nil))))) (ax_nil))) (ex_slice (ex_var 15) (px_some (ex_int)) (px_none))) (ax_nil))))))))))
      (bx_cons (sx_set 16 nd (ex_op ox_add (ex_var 16) (ex_lst (ax_cons (ex_op ox_add (ex_tup (ax_cons (ex_tup (ax_cons (ex_int) (ax_cons (ex_int) (ax_cons (ex_int) (ax_nil))))) (ax_nil))) (ex_slice (ex_var 15) (px_some (ex_int)) (px_none))) (ax_cons (ex_op ox_add (ex_tup (ax_cons (ex_tup (ax_cons (ex_un ux_neg (ex_int)) (ax_cons (ex_int) (ax_cons (ex_int) (ax_nil))))) (ax_nil))) (ex_slice (ex_var 15) (px_some (ex_int)) (px_none))) (ax_nil))))))
      (bx_cons (sx_set 16 nd (ex_op ox_add (ex_var 16) (ex_lst (ax_cons (ex_op ox_add (ex_tup (ax_cons (ex_tup (ax_cons (ex_bl) (ax_cons (ex_int) (ax_cons (ex_int) (ax_nil))))) (ax_nil))) (ex_slice (ex_var 15) (px_some (ex_int)) (px_none))) (ax_cons (ex_op ox_add (ex_tup (ax_cons (ex_tup (ax_cons (ex_str) (ax_cons (ex_int) (ax_cons (ex_int) (ax_nil))))) (ax_nil))) (ex_slice (ex_var 15) (px_some (ex_int)) (px_none))) (ax_cons (ex_op ox_add (ex_tup (ax_cons (ex_tup (ax_cons (ex_int) (ax_cons (ex_int) (ax_cons (ex_int) (ax_nil))))) (ax_nil))) (ex_slice (ex_var 15) (px_some (ex_int)) (px_none))) (ax_cons (ex_op ox_add (ex_tup (ax_cons (ex_tup (ax_cons (ex_int) (ax_cons (ex_un ux_neg (ex_int)) (ax_cons (ex_int) (ax_nil))))) (ax_nil))) (ex_slice (ex_var 15) (px_some (ex_int)) (px_none))) (ax_cons (ex_op ox_add (ex_tup (ax_cons (ex_tup (ax_cons (ex_int) (ax_cons (ex_int) (ax_cons (ex_un ux_neg (ex_int)) (ax_nil))))) (ax_nil))) (ex_slice (ex_var 15) (px_some (ex_int)) (px_none))) (ax_cons (ex_op ox_add (ex_tup (ax_cons (ex_tup (ax_cons (ex_int) (ax_cons (ex_op ox_add (ex_op ox_pow (ex_int) (ex_int)) (ex_int)) (ax_cons (ex_int) (ax_nil))))) (ax_nil))) (ex_slice (ex_var 15) (px_some (ex_int)) (px_none))) (ax_nil))))))))))
      (bx_cons (sx_set 16 nd (ex_op ox_add (ex_var 16) (ex_lst (ax_cons (ex_op ox_add (ex_tup (ax_cons (ex_tup (ax_cons (ex_int) (ax_cons (ex_non) (ax_cons (ex_int) (ax_nil))))) (ax_nil))) (ex_slice (ex_var 15) (px_some (ex_int)) (px_none))) (ax_cons (ex_op ox_add (ex_slice (ex_var 15) (px_none) (px_some (ex_int))) (ex_tup (ax_cons (ex_tup (ax_cons (ex_int) (ax_cons (ex_int) (ax_cons (ex_int) (ax_nil))))) (ax_nil)))) (ax_cons (ex_slice (ex_var 15) (px_none) (px_some (ex_int))) (ax_cons (ex_op (ox_rep false) (ex_tup (ax_cons (ex_tup (ax_cons (ex_non) (ax_cons (ex_int) (ax_cons (ex_int) (ax_nil))))) (ax_nil))) (ex_int)) (ax_cons (ex_int) (ax_nil)))))))))
      (bx_cons (sx_if (tx_cmp ox_ne (ex_lx (lx_l1 false [("value", 1)]  nd (blk_ok (by kernel_rfl))  (ix_all (ex_var 16)) (gv_name 1 nd) (txs_one (tx_cmp ox_isn (ex_call H_are_tasks (show 2 ≤ k by omega) rfl G.f_are_tasks.2.1 G.f_are_tasks.2.2.1 G.f_are_tasks.2.2.2 (ax_cons (ex_var 1) (ax_nil)) (fun _ _ _ _ h => len_cons (n := 0) ln0 _ _ _ h)) (ex_bl)))  (ex_var 1))) (ex_lst (ax_nil)))
      (bx_one (sx_ret (ex_bl)))
      (bx_nil))
      (bx_one (sx_ret (ex_cmp ox_eq (ex_lx (lx_l1 false [("value", 1)]  nd (blk_ok (by kernel_rfl))  (ix_all (ex_lst (ax_cons (ex_tup (ax_nil)) (ax_cons (ex_var 15) (ax_cons (ex_op (ox_rep false) (ex_tup (ax_cons (ex_tup (ax_cons (ex_non) (ax_cons (ex_int) (ax_cons (ex_int) (ax_nil))))) (ax_nil))) (ex_int)) (ax_cons (ex_tup (ax_cons (ex_tup (ax_cons (ex_int) (ax_cons (ex_op ox_pow (ex_int) (ex_int)) (ax_cons (ex_op ox_pow (ex_int) (ex_int)) (ax_nil))))) (ax_cons (ex_tup (ax_cons (ex_non) (ax_cons (ex_int) (ax_cons (ex_int) (ax_nil))))) (ax_nil)))) (ax_nil))))))) (gv_name 1 nd) (txs_one (tx_cmp ox_isn (ex_call H_are_tasks (show 2 ≤ k by omega) rfl G.f_are_tasks.2.1 G.f_are_tasks.2.2.1 G.f_are_tasks.2.2.2 (ax_cons (ex_var 1) (ax_nil)) (fun _ _ _ _ h => len_cons (n := 0) ln0 _ _ _ h)) (ex_bl)))  (ex_var 1))) (ex_lst (ax_nil))))))))))))))))))
theorem h_law (G : Gl T ad fo ct) : FnD T 11 (ad "law") (fo "law") ["script"] m_law := fnd_of G.f_law.1 s_law fun Wx => b_law G (Nat.le_refl _) Wx
end
end K67
namespace K67
open DL
theorem take_run {n : Nat} {M : Mem} {xs : List Int} {b : Int} (h : M[n]? = some (.lst (xs.map .int))) (hb : 0 < b) (nr : NR M) :
    ∃ (v : Int) (ys : List Int), m__law_take [.ref n, .int b] M = some (.ok (.int v), M.set n (.lst (ys.map .int))) ∧ 0 ≤ v ∧ v < b := by
  have hlt : n < M.length := (List.getElem?_eq_some_iff.mp h).1
  have hres : res M (.ref n) = .lst (xs.map .int) := by simp [res, h]
  have hlen : lenD (.ref n) M = some (.ok (.int xs.length), M) := by unfold lenD lenB; rw [hres]; simp
  unfold m__law_take fnD
  rcases xs.eq_nil_or_concat with rfl | ⟨ys, y, rfl⟩
  · refine ⟨0, [], ?_, Int.le_refl _, hb⟩
    have e : g__law_take (startE N__law_take [.ref n, .int b]) M = some (.ret (.int 0), M) := by
      unfold g__law_take N__law_take
      simp [startE, sE, Mo.bnd, Mo.ret, hlen, eq_int, boolD]
    rw [e, fnR_ret rfl (by simp), set_self h]
  · refine ⟨y.fmod b, ys, ?_, Int.fmod_nonneg_of_pos _ hb, Int.fmod_lt_of_pos _ hb⟩
    have hpop : chkM isL (.ref n) (popD (.ref n) []) M = some (.ok (.int y), M.set n (.lst (ys.map .int))) := by
      simp [chkM, isL, hres, popD, cur, h]
    have e : g__law_take (startE N__law_take [.ref n, .int b]) M = some (.ret (.int (y.fmod b)), M.set n (.lst (ys.map .int))) := by
      unfold g__law_take N__law_take
      simp [startE, sE, Mo.bnd, Mo.ret, hlen, eq_int, boolD, hpop]
      have e1 : decide ((ys.length : Int) + 1 = 0) = false := by simp; omega
      have e2 : decide (b = 0) = false := by simp; omega
      simp [e1, getV, Mo.ret, hpop, arg1, intD, modD, DL.intOp, e2]
    rw [e, fnR_noref rfl]
    · rw [List.take_of_length_le (by simp)]
    · intro o ho
      exact (nr.set n (o := .lst (ys.map .int)) (norefL_ints ys)) o (List.mem_of_mem_take ho)
end K67
namespace K67
open DL
@[simp] theorem mul_c (i : Int) : mulD (.int i) (.int 48271) = .ret (.int (i * 48271)) := mul_int (mul_small (by decide))
@[simp] theorem mul_c2 (i : Int) : mulD (.int i) (.int 69621) = .ret (.int (i * 69621)) := mul_int (mul_small (by decide))
@[simp] theorem mod_c1 (i : Int) : modD (.int i) (.int 2147483647) = .ret (.int (i.fmod 2147483647)) := mod_int (by decide)
@[simp] theorem mod_c2 (i : Int) : modD (.int i) (.int 2147483629) = .ret (.int (i.fmod 2147483629)) := mod_int (by decide)
@[simp] theorem mod_c3 (i : Int) : modD (.int i) (.int 1000003) = .ret (.int (i.fmod 1000003)) := mod_int (by decide)
@[simp] theorem mod_c4 (i : Int) : modD (.int i) (.int 997) = .ret (.int (i.fmod 997)) := mod_int (by decide)
@[simp] theorem div_c1 (i : Int) : fdivD (.int i) (.int 7) = .ret (.int (i.fdiv 7)) := fdiv_int (fdiv_small (by decide))
@[simp] theorem div_c2 (i : Int) : fdivD (.int i) (.int 997) = .ret (.int (i.fdiv 997)) := fdiv_int (fdiv_small (by decide))
@[simp] theorem div_c3 (i : Int) : fdivD (.int i) (.int 5) = .ret (.int (i.fdiv 5)) := fdiv_int (fdiv_small (by decide))
@[simp] theorem pow_c : powD (.int 10) (.int 18) = .ret (.int (10 ^ 18)) := by unfold powD DL.intOp; rfl
def dM (xs : List Int) : Mem := [.lst (xs.map .int)]
def St (S : List Int) (a b c d e : Option D) : En := [some (.lst (S.map .int)), some (.ref 0), a, b, c, d, e]
theorem dM_get (xs : List Int) : (dM xs)[0]? = some (.lst (xs.map .int)) := rfl
theorem app_dM {xs : List Int} {y : Int} (h : xs.length < PySem.sizeLine) : chkM isL (.ref 0) (appendD (.ref 0) [.int y]) (dM xs) = some (.ok .non, dM (xs ++ [y])) := by
  unfold chkM
  rw [isL_ref (dM_get xs)]
  rw [cond_true]
  rw [append_run (dM_get xs) (by simpa using h)]
  simp [dM]

theorem l1_run {S xs : List Int} {a c d e : Option D} {x : Int} (h : xs.length < 1000000) : ∃ (x' : Int) (ys : List Int), l1__law_draws (St S a (some (.int x)) c d e) (dM xs) = some (.nx (St S a (some (.int x')) c d e), dM ys) ∧ ys.length ≤ xs.length + 1 := by
  have hs : xs.length < PySem.sizeLine := by rw [PySem.sizeLine_eq]; omega
  unfold l1__law_draws St
  by_cases p : 0 < x
  · refine ⟨x.fdiv 997, xs ++ [x.fmod 997], ?_, by simp⟩
    simp [p, app_dM hs]
    simp [sE, Mo.bnd, Mo.ret, app_dM hs]
  · refine ⟨x, xs, ?_, by simp⟩
    simp [p]
theorem l3_run {S xs : List Int} {a b c d : Option D} {x : Int} (h : xs.length < 1000000) : ∃ (x' : Int) (ys : List Int), l3__law_draws (St S a b c d (some (.int x))) (dM xs) = some (.nx (St S a b c d (some (.int x'))), dM ys) ∧ ys.length ≤ xs.length + 1 := by
  have hs : xs.length < PySem.sizeLine := by rw [PySem.sizeLine_eq]; omega
  unfold l3__law_draws St
  refine ⟨(x * 48271 + 69621).fmod 2147483647, xs ++ [((x * 48271 + 69621).fmod 2147483647).fdiv 5], ?_, by simp⟩
  simp [app_dM hs]
  simp [sE, Mo.bnd, Mo.ret, app_dM hs]
theorem l2_for {S xs : List Int} {a c d e : Option D} {x : Int} (h : xs.length < 900000) : ∃ (x' : Int) (d' : Option D) (ys : List Int), forL none (fun d ρ => .ret (ρ.set 5 (some d))) l1__law_draws ((List.range 60).map fun k => .int (k : Nat)) (St S a (some (.int x)) c d e) (dM xs) = some (.nx (St S a (some (.int x')) c d' e), dM ys) ∧ ys.length ≤ xs.length + 60 := by
  obtain ⟨ρ', M', e1, x', d', ys, rfl, rfl, hl⟩ := forL_ind (h := fun d ρ => .ret (ρ.set 5 (some d))) (body := l1__law_draws) (fun i ρ M => ∃ (x : Int) (d : Option D) (ys : List Int), ρ = St S a (some (.int x)) c d e ∧ M = dM ys ∧ ys.length ≤ xs.length + i)
    ((List.range 60).map fun k => .int (k : Nat)) 0 (St S a (some (.int x)) c d e) (dM xs) ⟨x, d, xs, rfl, rfl, by omega⟩ (by
      intro j dd ρ M hj ⟨x, d, ys, e1, e2, hl⟩
      subst e1 e2
      have hj' : j < 60 := by
        have := (List.getElem?_eq_some_iff.mp hj).1
        simpa using this
      obtain ⟨x', zs, e3, h3⟩ := l1_run (S := S) (a := a) (c := c) (d := some dd) (e := e) (x := x) (xs := ys) (by omega)
      exact ⟨_, _, rfl, _, _, .inl e3, x', _, zs, rfl, rfl, by omega⟩)
  exact ⟨x', d', ys, e1, by simpa using hl⟩
theorem r60 : rngD1 [.int 60] = .ret ⟨(List.range 60).map fun k => .int (k : Nat), none⟩ := rngD1_nat (n := 60) (by decide)
theorem r900 : rngD1 [.int 900] = .ret ⟨(List.range 900).map fun k => .int (k : Nat), none⟩ := rngD1_nat (n := 900) (by decide)
theorem l2_run {S xs : List Int} {b c d e : Option D} {p : Int} (h : xs.length < 800000) : ∃ (b' c' d' : Option D) (ys : List Int), l2__law_draws (St S (some (.int p)) b c d e) (dM xs) = some (.nx (St S (some (.int p)) b' c' d' e), dM ys) ∧ ys.length ≤ xs.length + 62 := by
  have hs : ∀ k ≤ 2, ∀ zs : List Int, zs.length ≤ xs.length + k → zs.length < PySem.sizeLine := by
    intro k hk zs hz; rw [PySem.sizeLine_eq]; omega
  unfold l2__law_draws
  obtain ⟨q, e0⟩ : ∃ q, (if p < 0 then -p else p) = q := ⟨_, rfl⟩
  by_cases hq : q < 1000000000000000000
  · obtain ⟨x', d', ys, e3, h3⟩ := l2_for (S := S) (a := some (.int p)) (c := some (.int ((q * 48271 + 11).fmod 2147483647))) (d := d) (e := e) (x := 0) (xs := xs ++ [(((q * 48271 + 11).fmod 2147483647) * 69621 + q).fmod 2147483629] ++ [((q * 48271 + 11).fmod 2147483647 + q.fdiv 7).fmod 1000003]) (by simp; omega)
    refine ⟨some (.int x'), some (.int ((q * 48271 + 11).fmod 2147483647)), d', ys, ?_, by simp at h3; omega⟩
    simp [St, e0, hq]
    simp [sE, Mo.bnd, Mo.ret, app_dM (hs 0 (by omega) xs (by omega)), e0, hq, St]
    rw [app_dM (hs 1 (by omega) _ (by simp))]
    simp [s0]
    rw [r60]
    simpa [St, Mo.ret] using e3
  · obtain ⟨x', d', ys, e3, h3⟩ := l2_for (S := S) (a := some (.int p)) (c := c) (d := d) (e := e) (x := q) (xs := xs) (by omega)
    refine ⟨some (.int x'), c, d', ys, ?_, by omega⟩
    simp [St, hq, e0]
    rw [r60]
    simpa [St] using e3
theorem St_set2 {S : List Int} {a b c d e x : Option D} : (St S a b c d e).set 2 x = St S x b c d e := rfl
theorem draws_run (S : List Int) (h : S.length ≤ 63) : ∃ xs ys : List Int, m__law_draws [.lst (S.map .int)] [] = some (.ok (.ref 1), [.lst (ys.map .int), .lst (xs.map .int)]) := by
  obtain ⟨ρ1, M1, e1, a, b, c, d, xs1, rfl, rfl, hl1⟩ := forL_ind (h := fun d ρ => .ret (ρ.set 2 (some d))) (body := l2__law_draws) (fun i ρ M => ∃ (a b c d : Option D) (ys : List Int), ρ = St S a b c d none ∧ M = dM ys ∧ ys.length ≤ 62 * i)
    (S.map .int) 0 (St S none none none none none) (dM []) ⟨none, none, none, none, [], rfl, rfl, by simp⟩ (by
      intro j dd ρ M hj ⟨a, b, c, d, ys, e1, e2, hl⟩
      subst e1 e2
      obtain ⟨hj', hd⟩ := List.getElem?_eq_some_iff.mp hj
      rw [List.length_map] at hj'
      rw [List.getElem_map] at hd
      subst hd
      obtain ⟨b', c', d', zs, e3, h3⟩ := l2_run (S := S) (b := b) (c := c) (d := d) (e := none) (p := S[j]) (xs := ys) (by omega)
      exact ⟨_, _, rfl, _, _, .inl e3, _, b', c', d', zs, rfl, rfl, by omega⟩)
  have hl1' : xs1.length ≤ 62 * 63 := by simp at hl1; omega
  obtain ⟨s, hs⟩ : ∃ s : Int, sIf (fun ρ => .bnd (.bnd (.bnd (.bnd (getV ρ 0) fun d => .bnd (.ret []) fun ds => .ret (d :: ds)) (arg1 lenD)) fun a => .bnd (.ret (.int 0)) fun b => gtD a b) boolD)
      (fun ρ => sE (.bnd (.ret (.int 1)) fun a => .bnd (.bnd (.bnd (.bnd (getV ρ 0) fun a => .bnd (.ret (.int 0)) fun b => subD' a b) fun d => .bnd (.ret []) fun ds => .ret (d :: ds)) (arg1 absD)) fun b => addD a b) ρ fun d M => some (.nx (ρ.set 6 (some d)), M))
      sNext (St S a b c d (some (.int 1))) (dM xs1) = some (.nx (St S a b c d (some (.int s))), dM xs1) := by
    cases S with
    | nil => exact ⟨1, by simp [St]⟩
    | cons p r =>
      refine ⟨1 + (if p < 0 then -p else p), ?_⟩
      have e : (0 : Int) < (r.length : Int) + 1 := by omega
      simp [St, e]
  obtain ⟨ρ2, M2, e2, d2, f2, xs2, rfl, rfl, hl2⟩ := forL_ind (h := fun d ρ => .ret (ρ.set 5 (some d))) (body := l3__law_draws) (fun i ρ M => ∃ (d : Option D) (f : Int) (ys : List Int), ρ = St S a b c d (some (.int f)) ∧ M = dM ys ∧ ys.length ≤ xs1.length + i)
    ((List.range 900).map fun k => .int (k : Nat)) 0 (St S a b c d (some (.int s))) (dM xs1) ⟨d, s, xs1, rfl, rfl, by simp⟩ (by
      intro j dd ρ M hj ⟨d, f, ys, e1, e2, hl⟩
      subst e1 e2
      have hj' : j < 900 := by
        have := (List.getElem?_eq_some_iff.mp hj).1
        simpa using this
      obtain ⟨f', zs, e3, h3⟩ := l3_run (S := S) (a := a) (b := b) (c := c) (d := some dd) (x := f) (xs := ys) (by omega)
      exact ⟨_, _, rfl, _, _, .inl e3, some dd, f', zs, rfl, rfl, by omega⟩)
  have hl2' : xs2.length ≤ 62 * 63 + 900 := by simp at hl2; omega
  refine ⟨xs2.reverse, xs2, ?_⟩
  unfold m__law_draws fnO g__law_draws
  have h1 : sE (.bnd (.ret []) newL) (startE N__law_draws [.lst (S.map .int)]) (fun d M => some (Fl.nx ((startE N__law_draws [.lst (S.map .int)]).set 1 (some d)), M)) [] = some (.nx (St S none none none none none), dM []) := by
    simp [startE, N__law_draws, sE, Mo.bnd, Mo.ret, newL, lenOk, St, dM]
  have h2 : sFor (fun ρ => .bnd (getV ρ 0) itD) (fun d ρ => .ret (ρ.set 2 (some d))) l2__law_draws (St S none none none none none) (dM []) = some (.nx (St S a b c d none), dM xs1) := by
    simp only [for_app]
    simp [St]
    exact e1
  have h5 : sFor (fun ρ => .bnd (.bnd (.ret (.int 900)) fun d => .bnd (.ret []) fun ds => .ret (d :: ds)) rngD1) (fun d ρ => .ret (ρ.set 5 (some d))) l3__law_draws (St S a b c d (some (.int s))) (dM xs1) = some (.nx (St S a b c d2 (some (.int f2))), dM xs2) := by
    simp only [for_app, bnd_r, r900, sE_app]
    exact e2
  have h3 : sE (.ret (.int 1)) (St S a b c d none) (fun v M => some (Fl.nx ((St S a b c d none).set 6 (some v)), M)) (dM xs1) = some (.nx (St S a b c d (some (.int 1))), dM xs1) := rfl
  rw [run_seq h1, run_seq h2, run_seq h3, run_seq hs, run_seq h5]
  simp [St, sE, Mo.bnd, Mo.ret, lrevD, dM, res, finD, finV, finMm, fnW]
end K67
namespace K67
open DL
theorem is_number_int (i a b : Int) : m_is_number [.int i, .int a, .int b] = .ret (.bl (decide (a ≤ i) && decide (i ≤ b))) := by
  refine fnD_pr (fun M => ?_) rfl
  unfold g_is_number N_is_number
  simp -implicitDefEqProofs [startE]
  by_cases h : a ≤ i
  · simp [h]
  · simp [h]
theorem is_number_bl (x : Bool) (a b : Int) : m_is_number [.bl x, .int a, .int b] = .ret (.bl false) := by
  refine fnD_pr (fun M => ?_) rfl
  unfold g_is_number N_is_number
  simp -implicitDefEqProofs [startE]
theorem is_number_non (a b : Int) : m_is_number [.non, .int a, .int b] = .ret (.bl false) := by
  refine fnD_pr (fun M => ?_) rfl
  unfold g_is_number N_is_number
  simp -implicitDefEqProofs [startE]
theorem is_number_str (x : PySem.Str) (a b : Int) : m_is_number [.str x, .int a, .int b] = .ret (.bl false) := by
  refine fnD_pr (fun M => ?_) rfl
  unfold g_is_number N_is_number
  simp -implicitDefEqProofs [startE]
theorem turned_run {m : Nat} {L : List Nat} (o : Ord m L) (hm : m ≤ 9) : m_turned [ordD L] = .ret (ordD (inv m L)) := by
  funext M
  obtain ⟨ρ1, M1, e1, a, b, rfl, rfl⟩ := forL_ind (h := fun d ρ => .bnd (itemsT 2 d) fun ds => (gConsD (fun d ρ => .ret (ρ.set 2 (some d))) (gConsD (fun d ρ => .ret (ρ.set 3 (some d))) gNilD)) ds ρ) (body := l1_turned)
    (fun i ρ M' => ∃ (a b : Option D), ρ = [some (ordD L), some (.ref M.length), a, b] ∧ M' = M ++ [.lst ((List.range m).map fun r => eN ((pos (L.take i) r).getD 0))])
    (L.zipIdx.map fun p => .tup [.int p.2, .int p.1]) 0 [some (ordD L), some (.ref M.length), none, none] (M ++ [.lst ((List.range m).map fun _ => eN 0)])
    ⟨none, none, rfl, rfl⟩ (by
      intro j dd ρ M' hj ⟨a, b, e1, e2⟩
      subst e1 e2
      rw [Nat.zero_add]
      obtain ⟨hj', hd⟩ := List.getElem?_eq_some_iff.mp hj
      rw [List.length_map, List.length_zipIdx] at hj'
      rw [List.getElem_map, List.getElem_zipIdx] at hd
      simp only [Nat.zero_add] at hd
      subst hd
      have hlt : L[j] < m := o.lt _ (List.getElem_mem hj')
      have hno : L[j] ∉ L.take j := by
        intro q
        obtain ⟨i, hi, e⟩ := List.mem_take_iff_getElem.mp q
        have := List.pairwise_iff_getElem.mp o.nd i j (by omega) hj' (by omega)
        exact this e
      have st := store_lst (ρ := [some (ordD L), some (.ref M.length), some (.int j), some (.int L[j])]) (v := eN j) (last_at (M := M) (o := .lst ((List.range m).map fun r => eN ((pos (L.take j) r).getD 0)))) (r := L[j]) (by simpa using hlt)
      rw [last_set] at st
      have hset : ((List.range m).map fun r => eN ((pos (L.take j) r).getD 0)).set L[j] (eN j) = (List.range m).map fun r => eN ((pos (L.take (j + 1)) r).getD 0) := by
        rw [List.take_succ_eq_append_getElem hj']
        apply List.ext_getElem?
        intro r
        by_cases hr : r < m
        · rw [List.getElem?_map, List.getElem?_range hr]
          simp only [Option.map_some, pos_snoc hno]
          by_cases e : L[j] = r
          · rw [← e, List.getElem?_set_self (by simpa using hlt), if_pos rfl]
            have : (L.take j).length = j := by simp; omega
            rw [this]; rfl
          · rw [List.getElem?_set_ne e, if_neg (Ne.symm e), List.getElem?_map, List.getElem?_range hr]; rfl
        · rw [List.getElem?_eq_none (by simp; omega), List.getElem?_eq_none (by simp; omega)]
      rw [hset] at st
      refine ⟨[some (ordD L), some (.ref M.length), some (.int j), some (.int L[j])], M ++ [.lst ((List.range m).map fun r => eN ((pos (L.take j) r).getD 0))], ?_, [some (ordD L), some (.ref M.length), some (.int j), some (.int L[j])], M ++ [.lst ((List.range m).map fun r => eN ((pos (L.take (j + 1)) r).getD 0))], .inl ?_, some (.int j), some (.int L[j]), rfl, rfl⟩
      · simp -implicitDefEqProofs; rfl
      · unfold l1_turned
        unfold eN at st ⊢
        simp -implicitDefEqProofs [sE, Mo.bnd, Mo.ret, s0, st])
  rw [show L.take (0 + (L.zipIdx.map fun p => D.tup [.int p.2, .int p.1]).length) = L by simp] at e1
  have he : ((List.range m).map fun r => eN ((pos L r).getD 0)) = (inv m L).map eN := by
    unfold inv; rw [List.map_map]; rfl
  rw [he] at e1
  refine fnD_new (M' := [.lst ((inv m L).map eN)]) ?_ (noref_ord _)
  unfold g_turned N_turned
  have l1 : lenD (ordD L) = .ret (.int m) := by
    have := len_tup (L.map eN)
    rw [List.length_map, o.len] at this
    exact this
  refine (run_seq (ρ1 := [some (ordD L), some (.ref M.length), none, none]) (M1 := M ++ [.lst ((List.range m).map fun _ => eN 0)]) ?_).trans ?_
  · have rv := rep_int m (by omega) M
    simp -implicitDefEqProofs [startE, sE, Mo.bnd, Mo.ret, l1, rv]
  refine (run_seq (ρ1 := [some (ordD L), some (.ref M.length), a, b]) (M1 := M ++ [.lst ((inv m L).map eN)]) ?_).trans ?_
  · simp only [for_app]
    simp -implicitDefEqProofs [enumD_ord]
    exact e1
  · have tl : tupleD (.ref M.length) (M ++ [.lst ((inv m L).map eN)]) = some (.ok (ordD (inv m L)), M ++ [.lst ((inv m L).map eN)]) := by
      simp [tupleD, seqB, res, ordD]
    simp -implicitDefEqProofs [sE, Mo.bnd, Mo.ret, tl]
theorem is_order_run {m : Nat} {L : List Nat} (o : Ord m L) (hm : m ≤ 900) : m_is_order [ordD L, .int m] = .ret (.bl true) := by
  refine fnD_pr (fun M => ?_) rfl
  have l1 : lenD (ordD L) = .ret (.int m) := by
    have := len_tup (L.map eN)
    rw [List.length_map, o.len] at this
    exact this
  have l2 := len_set o.nd (by rw [o.len]; exact hm)
  rw [o.len] at l2
  have e : itD (ordD L) = .ret ⟨L.map eN, none⟩ := rfl
  have e1 : isiD (ordD L) (.ty "tuple") = .ret (.bl true) := k_tup_tup _
  unfold g_is_order N_is_order
  simp -implicitDefEqProofs [startE, l1, l2, e, e1]
  rw [all_true2]
  · simp -implicitDefEqProofs [l2]
  · intro r hr
    have := o.lt r hr
    have h1 : (0 : Int) ≤ r := by omega
    have h2 : (r : Int) ≤ (m : Int) - 1 := by omega
    simp -implicitDefEqProofs [turnG, wipeR, eN, is_number_int, h1, h2]
def hM (L0 xs : List Int) (l f : List Nat) : Mem := [.lst (L0.map .int), .lst (xs.map .int), .lst (l.map eN), .lst (f.map eN)]
theorem hM_nr (L0 xs : List Int) (l f : List Nat) : NR (hM L0 xs l f) := by
  intro o ho
  simp only [hM, List.mem_cons, List.not_mem_nil, or_false] at ho
  rcases ho with rfl | rfl | rfl | rfl
  · exact norefL_ints _
  · exact norefL_ints _
  · exact norefL_nats _
  · exact norefL_nats _
theorem ne_left {L0 xs : List Int} {l f : List Nat} : neD (.ref 2) (.lst []) (hM L0 xs l f) = some (.ok (.bl (!decide (l = []))), hM L0 xs l f) := by
  have e : eqB (hM L0 xs l f) (.ref 2) (.lst []) = eqB (hM L0 xs l f) (.lst (l.map eN)) (.lst []) := rfl
  unfold neD
  rw [e, eqB_pl (pl_nats l) ⟨rfl, by decide⟩]
  simp
theorem l1_shuf_run {S : Option D} {L0 xs : List Int} {l f : List Nat} (h : l ≠ []) (hl : l.length ≤ 900) (hf : f.length ≤ 900) :
    ∃ (i : Nat) (d : Nat) (ys : List Int), l[i]? = some d ∧ l1__law_shuffled [some (.ref 1), S, some (.ref 2), some (.ref 3)] (hM L0 xs l f) = some (.nx [some (.ref 1), S, some (.ref 2), some (.ref 3)], hM L0 ys (l.eraseIdx i) (f ++ [d])) := by
  have hpos : 0 < l.length := by cases l with | nil => exact absurd rfl h | cons a r => simp
  obtain ⟨v, ys, e1, h1, h2⟩ := take_run (n := 1) (M := hM L0 xs l f) (xs := xs) (b := l.length) rfl (by omega) (hM_nr L0 xs l f)
  obtain ⟨i, rfl⟩ : ∃ i : Nat, v = i := ⟨v.toNat, by omega⟩
  have hi : i < l.length := by omega
  have e1 : m__law_take [.ref 1, .int l.length] (hM L0 xs l f) = some (.ok (.int i), hM L0 ys l f) := e1
  refine ⟨i, l[i], ys, List.getElem?_eq_getElem hi, ?_⟩
  have hlen : lenD (.ref 2) (hM L0 xs l f) = some (.ok (.int l.length), hM L0 xs l f) := by simp [lenD, lenB, hM, res]
  have c2 : isL (hM L0 xs l f) (.ref 2) = true := rfl
  have c3 : isL (hM L0 xs l f) (.ref 3) = true := rfl
  have hp := pop_at (M := hM L0 ys l f) (n := 2) (i := i) (l := l.map eN) (d := eN l[i]) rfl (by rw [List.getElem?_map, List.getElem?_eq_getElem hi]; rfl) (by simp; omega)
  have hp2 : popD (.ref 2) [.int i] (hM L0 ys l f) = some (.ok (eN l[i]), hM L0 ys (l.eraseIdx i) f) := by
    rw [hp]
    simp [hM, erase_map]
  have ha := append_run (M := hM L0 ys (l.eraseIdx i) f) (n := 3) (l := f.map eN) (d := eN l[i]) rfl (by rw [PySem.sizeLine_eq]; simp; omega)
  have ha2 : appendD (.ref 3) [eN l[i]] (hM L0 ys (l.eraseIdx i) f) = some (.ok .non, hM L0 ys (l.eraseIdx i) (f ++ [l[i]])) := by
    rw [ha]
    simp [hM]
  unfold l1__law_shuffled
  simp -implicitDefEqProofs [sE, Mo.bnd, Mo.ret, chkM, c2, c3, hlen, e1, hp2, ha2]
theorem shuffled_run {n : Nat} {L0 xs : List Int} (hn : n ≤ 9) :
    ∃ (L : List Nat) (ys : List Int), m__law_shuffled [.ref 1, .lst ((List.range n).map eN)] (dM2 L0 xs) = some (.ok (.lst (L.map eN)), dM2 L0 ys) ∧ L.Perm (List.range n) := by
  obtain ⟨m', ρ', M', e1, ⟨ys, l, f, rfl, rfl, hm, hp⟩, hc⟩ := while_ind (c := fun ρ => .bnd (.bnd (getV ρ 2) fun a => .bnd (.bnd (.ret []) lstD) fun b => neD a b) boolD) (body := l1__law_shuffled)
    (fun k ρ M => ∃ (ys : List Int) (l f : List Nat), ρ = [some (.ref 1), some (.lst ((List.range n).map eN)), some (.ref 2), some (.ref 3)] ∧ M = hM L0 ys l f ∧ k = l.length ∧ (f ++ l).Perm (List.range n)) (by
      rintro k ρ M ⟨ys, l, f, rfl, rfl, rfl, hp⟩
      have hlen := hp.length_eq
      simp at hlen
      by_cases hl : l = []
      · left
        have z := ne_left (L0 := L0) (xs := ys) (l := l) (f := f)
        subst hl
        simp -implicitDefEqProofs at z
        simp -implicitDefEqProofs [Mo.bnd, Mo.ret, z]
      · right
        have z := ne_left (L0 := L0) (xs := ys) (l := l) (f := f)
        obtain ⟨i, d, zs, hi, e⟩ := l1_shuf_run (S := some (.lst ((List.range n).map eN))) (L0 := L0) (xs := ys) (l := l) (f := f) hl (by omega) (by omega)
        refine ⟨?_, (l.eraseIdx i).length, ?_, _, _, .inl e, zs, l.eraseIdx i, f ++ [d], rfl, rfl, rfl, (perm_erase hi).trans hp⟩
        · simp -implicitDefEqProofs [hl] at z
          simp -implicitDefEqProofs [Mo.bnd, Mo.ret, z]
        · have := (List.getElem?_eq_some_iff.mp hi).1
          rw [List.length_eraseIdx_of_lt this]
          omega) 1000 n [some (.ref 1), some (.lst ((List.range n).map eN)), some (.ref 2), some (.ref 3)] (hM L0 xs (List.range n) []) (by omega) ⟨xs, List.range n, [], rfl, rfl, by simp, by simp⟩
  have hl : l = [] := by
    have z := ne_left (L0 := L0) (xs := ys) (l := l) (f := f)
    refine Classical.byContradiction fun q => ?_
    simp -implicitDefEqProofs [q] at z
    simp -implicitDefEqProofs [Mo.bnd, Mo.ret, z] at hc
  subst hl
  rw [List.append_nil] at hp
  refine ⟨f, ys, ?_, hp⟩
  unfold m__law_shuffled fnD
  have hg : g__law_shuffled (startE N__law_shuffled [.ref 1, .lst ((List.range n).map eN)]) (dM2 L0 xs) = some (.ret (.ref 3), hM L0 ys [] f) := by
    unfold g__law_shuffled N__law_shuffled
    refine (run_seq (ρ1 := [some (.ref 1), some (.lst ((List.range n).map eN)), some (.ref 2), some (.ref 3)]) (M1 := hM L0 xs (List.range n) []) ?_).trans ?_
    · have e1 : listA true (.lst ((List.range n).map eN)) (dM2 L0 xs) = some (.ok (.ref 2), dM2 L0 xs ++ [.lst ((List.range n).map eN)]) := rfl
      simp -implicitDefEqProofs [startE, sE, Mo.bnd, Mo.ret, e1, newL, dM2, hM, par2]
      rfl
    refine (run_seq e1).trans ?_
    simp
  rw [hg]
  show fin _ _ _ = _
  have hf : frF (hM L0 ys [] f) (dM2 L0 xs).length 3 3 = some (.lst (f.map eN)) := by
    unfold frF
    rw [if_neg (show ¬ 3 < (dM2 L0 xs).length by show ¬ 3 < 2; omega)]
    show (substL _ (f.map eN)).map D.lst = _
    rw [substL_noref (norefL_nats f)]
    rfl
  unfold fin
  rw [subst, hf]
  rw [finM_noref fun o ho => hM_nr L0 ys [] f o (List.mem_of_mem_take ho)]
  rfl
end K67
namespace K67
open DL
def ordN (L : List Nat) : D := .tpn (L.map eN)
theorem norefN (L : List Nat) : noref (ordN L) = true := by
  show norefL (L.map eN) = true
  exact norefL_nats L
/-- the law's memory: two lists of draws, and what was made later -/
def dX (X : Mem) (L0 xs : List Int) : Mem := .lst (L0.map .int) :: .lst (xs.map .int) :: X
theorem dX_nr {X : Mem} (hX : NR X) (L0 xs : List Int) : NR (dX X L0 xs) := by
  intro o ho
  simp only [dX, List.mem_cons] at ho
  rcases ho with rfl | rfl | ho
  · exact norefL_ints _
  · exact norefL_ints _
  · exact hX o ho
theorem take_nat {X : Mem} (hX : NR X) (L0 xs : List Int) {b : Int} (hb : 0 < b) : ∃ (v : Nat) (ys : List Int), m__law_take [.ref 1, .int b] (dX X L0 xs) = some (.ok (.int v), dX X L0 ys) ∧ (v : Int) < b := by
  obtain ⟨v, ys, e, h1, h2⟩ := take_run (n := 1) (M := dX X L0 xs) (xs := xs) rfl hb (dX_nr hX L0 xs)
  refine ⟨v.toNat, ys, ?_, by omega⟩
  rw [show ((v.toNat : Nat) : Int) = v by omega]
  exact e
theorem comp_subM {turn : D → Mo (List D)} {f : Nat → D} (I : Mem → Prop) : ∀ {l : List Nat} {M : Mem}, I M → (∀ d ∈ l, ∀ M, I M → ∃ (b : Bool) (M' : Mem), turn (.int d) M = some (.ok (cond b [f d] []), M') ∧ I M') →
    ∃ (l' : List Nat) (M' : Mem), compL none turn (l.map fun k => .int (k : Nat)) M = some (.ok (l'.map f), M') ∧ I M' ∧ l'.Sublist l
  | [], M, i, _ => ⟨[], M, guardM_none _ _, i, .slnil⟩
  | d :: r, M, i, h => by
    obtain ⟨b, M1, e1, i1⟩ := h d List.mem_cons_self M i
    obtain ⟨l', M2, e2, i2, s⟩ := comp_subM I (l := r) i1 fun e he => h e (List.mem_cons_of_mem _ he)
    cases b with
    | true =>
      refine ⟨d :: l', M2, ?_, i2, s.cons₂ _⟩
      rw [List.map_cons, compL_cons', bnd_M e1, bnd_M e2]
      rfl
    | false =>
      refine ⟨l', M2, ?_, i2, s.cons _⟩
      rw [List.map_cons, compL_cons', bnd_M e1, bnd_M e2]
      rfl
theorem order_run {n : Nat} {L0 xs : List Int} (hn : n ≤ 9) : ∃ (L : List Nat) (ys : List Int), m__law_order [.ref 1, .int n] (dX [] L0 xs) = some (.ok (ordN L), dX [] L0 ys) ∧ Ord n L := by
  obtain ⟨L, ys, e, hp⟩ := shuffled_run (n := n) (L0 := L0) (xs := xs) hn
  refine ⟨L, ys, ?_, Ord.of_perm hp⟩
  have e : m__law_shuffled [.ref 1, .lst ((List.range n).map eN)] (dX [] L0 xs) = some (.ok (.lst (L.map eN)), dX [] L0 ys) := e
  have hg : g__law_order (startE N__law_order [.ref 1, .int n]) (dX [] L0 xs) = some (.ret (ordN L), dX [] L0 ys) := by
    unfold g__law_order N__law_order
    simp -implicitDefEqProofs [startE, lrg_nat (m := n) (by omega), sE, Mo.bnd, Mo.ret, e, tupleN, res, ordN]
  unfold m__law_order fnD
  rw [hg, fnR_noref (norefN L)]
  · rw [List.take_of_length_le (by simp [dX])]
  · intro o ho
    exact dX_nr (fun o ho => by cases ho) L0 ys o (List.mem_of_mem_take ho)
structure Gr (p : Nat) (es : List (Nat × Nat)) : Prop where
  ok : ∀ a ∈ es, a.1 < a.2 ∧ a.2 < p
  len : es.length ≤ p * p
def graD (p : Nat) (es : List (Nat × Nat)) : D := .tup [.int p, .tup (es.map eP)]
theorem noref_eP (l : List (Nat × Nat)) : norefL (l.map eP) = true := noref_map (fun _ => rfl) _
theorem noref_gra (p : Nat) (es : List (Nat × Nat)) : noref (graD p es) = true := by
  simp [graD, noref, norefL, noref_eP]
theorem graph_l1 {p k : Nat} {many : Int} {j : Option D} {es : List (Nat × Nat)} {L0 xs : List Int} (hp : p ≤ 9) (hk : k < p) (hl : es.length ≤ k * p) (ok : ∀ a ∈ es, a.1 < a.2 ∧ a.2 < p) :
    ∃ (es' : List (Nat × Nat)) (ys : List Int), l1__law_graph [some (.ref 1), some (.int p), some (.int many), j, some (.lst (es.map eP)), some (.int k)] (dX [] L0 xs) =
      some (.nx [some (.ref 1), some (.int p), some (.int many), j, some (.lst (es'.map eP)), some (.int k)], dX [] L0 ys) ∧ es'.length ≤ (k + 1) * p ∧ ∀ a ∈ es', a.1 < a.2 ∧ a.2 < p := by
  obtain ⟨l', M', e1, ⟨ys, rfl⟩, hs⟩ := comp_subM (turn := turn1 (wipeR [some (.ref 1), some (.int p), some (.int many), j, some (.lst (es.map eP)), some (.int k)] [3]) (fun d ρ => .ret (ρ.set 3 (some d))) (fun ρ => .bnd (.bnd (.bnd (.bnd (getV ρ 0) fun d => .bnd (.bnd (.ret (.int 100)) fun d => .bnd (.ret []) fun ds => .ret (d :: ds)) fun ds => .ret (d :: ds)) (m__law_take)) fun a => .bnd (getV ρ 2) fun b => ltD a b) boolD) (one' fun ρ => .bnd (.bnd (getV ρ 5) fun d => .bnd (.bnd (getV ρ 3) fun d => .bnd (.ret []) fun ds => .ret (d :: ds)) fun ds => .ret (d :: ds)) tupD))
    (f := fun j => eP (k, j)) (fun M => ∃ ys, M = dX [] L0 ys) (l := List.range' (k + 1) (p - (k + 1))) (M := dX [] L0 xs) ⟨xs, rfl⟩ (by
      rintro d hd M ⟨zs, rfl⟩
      obtain ⟨v, ys, e, hv⟩ := take_nat (X := []) (fun o ho => by cases ho) L0 zs (b := 100) (by decide)
      refine ⟨decide ((v : Int) < many), dX [] L0 ys, ?_, ys, rfl⟩
      simp -implicitDefEqProofs [turn1, wipeR, Mo.bnd, Mo.ret, e]
      by_cases hm : (v : Int) < many
      · simp -implicitDefEqProofs [hm, one', Mo.bnd, Mo.ret, tup_ok, PySem.sizeLine_eq, eP]
      · simp -implicitDefEqProofs [hm, Mo.ret])
  have hlen := hs.length_le
  rw [List.length_range'] at hlen
  refine ⟨es ++ l'.map fun j => (k, j), ys, ?_, ?_, ?_⟩
  · have er := rngD2_nat (m := k + 1) (n := p) (by omega) (by omega)
    rw [show ((k + 1 : Nat) : Int) = (k : Int) + 1 by omega] at er
    unfold l1__law_graph
    simp -implicitDefEqProofs only [sE_app, getV, bnd_r]
    refine sE_M (a := .lst ((es ++ l'.map fun j => (k, j)).map eP)) (M1 := dX [] L0 ys) ?_ |>.trans ?_
    · refine (bnd_M (a := .lst (es.map eP)) (M1 := dX [] L0 xs) rfl).trans ?_
      refine (bnd_M (a := .lst (l'.map fun j => eP (k, j))) (M1 := dX [] L0 ys) ?_).trans ?_
      · refine (bnd_M (a := ⟨(List.range' (k + 1) (p - (k + 1))).map fun k => .int (k : Nat), none⟩) (M1 := dX [] L0 xs) ?_).trans ?_
        · simp -implicitDefEqProofs [er]; rfl
        · exact cmp_lstM e1 (by simp; omega)
      · rw [add_lst (by rw [PySem.sizeLine_eq]; simp; have : (k + 1) * p ≤ 9 * 9 := Nat.mul_le_mul (by omega) hp; have : k * p ≤ 9 * 9 := Nat.mul_le_mul (by omega) hp; omega)]
        simp -implicitDefEqProofs [Mo.ret]
    · rfl
  · rw [List.length_append, List.length_map, Nat.succ_mul]; omega
  · intro a ha
    rcases List.mem_append.mp ha with h | h
    · exact ok a h
    · obtain ⟨j, hj, rfl⟩ := List.mem_map.mp h
      have := hs.subset hj
      rw [List.mem_range'_1] at this
      constructor
      · show k < j; omega
      · show j < p; omega
/-- a drawn graph -/
theorem graph_run {p : Nat} {many : Int} {L0 xs : List Int} (hp : p ≤ 9) : ∃ (es : List (Nat × Nat)) (ys : List Int), m__law_graph [.ref 1, .int p, .int many] (dX [] L0 xs) = some (.ok (graD p es), dX [] L0 ys) ∧ Gr p es := by
  obtain ⟨ρ1, M1, e1, j, es, zs, kk, rfl, rfl, hl, ok⟩ := forL_ind (h := fun d ρ => .ret (ρ.set 5 (some d))) (body := l1__law_graph)
    (fun i ρ M => ∃ (j : Option D) (es : List (Nat × Nat)) (zs : List Int) (kk : Option D), ρ = [some (.ref 1), some (.int p), some (.int many), j, some (.lst (es.map eP)), kk] ∧ M = dX [] L0 zs ∧ es.length ≤ i * p ∧ ∀ a ∈ es, a.1 < a.2 ∧ a.2 < p)
    ((List.range p).map fun k => .int (k : Nat)) 0 [some (.ref 1), some (.int p), some (.int many), none, some (.lst []), none] (dX [] L0 xs) ⟨none, [], xs, none, rfl, rfl, by simp, by simp⟩ (by
      rintro i dd ρ M hj ⟨j, es, zs, kk, rfl, rfl, hl, ok⟩
      rw [Nat.zero_add] at *
      obtain ⟨hj', hd⟩ := List.getElem?_eq_some_iff.mp hj
      simp only [List.length_map, List.length_range] at hj'
      rw [List.getElem_map, List.getElem_range] at hd
      subst hd
      obtain ⟨es', ys, e, h1, h2⟩ := graph_l1 (many := many) (j := j) (L0 := L0) (xs := zs) hp hj' hl ok
      exact ⟨_, _, rfl, _, _, .inl e, j, es', ys, _, rfl, rfl, h1, h2⟩)
  simp only [List.length_map, List.length_range, Nat.zero_add] at hl
  refine ⟨es, zs, ?_, ok, hl⟩
  have hg : g__law_graph (startE N__law_graph [.ref 1, .int p, .int many]) (dX [] L0 xs) = some (.ret (graD p es), dX [] L0 zs) := by
    unfold g__law_graph N__law_graph
    refine (run_seq (ρ1 := [some (.ref 1), some (.int p), some (.int many), none, some (.lst []), none]) (M1 := dX [] L0 xs) ?_).trans ?_
    · have lo : lstD [] = .ret (.lst []) := lst_ok13 [] (by simp)
      simp -implicitDefEqProofs [startE, sE, Mo.bnd, Mo.ret, lo]
    refine (run_seq (ρ1 := [some (.ref 1), some (.int p), some (.int many), j, some (.lst (es.map eP)), kk]) (M1 := dX [] L0 zs) ?_).trans ?_
    · have rn := rngD1_nat (n := p) (by omega)
      simp only [for_app]
      simp -implicitDefEqProofs [rn]
      exact e1
    · have t2 : tupD [.int p, .tup (es.map eP)] = .ret (graD p es) := tup_ok (by rw [PySem.sizeLine_eq]; simp)
      simp -implicitDefEqProofs [sE, Mo.bnd, Mo.ret, t2]
  unfold m__law_graph fnD
  rw [hg, fnR_noref (noref_gra _ _)]
  · rw [List.take_of_length_le (by simp [dX])]
  · intro o ho
    exact dX_nr (fun o ho => by cases ho) L0 zs o (List.mem_of_mem_take ho)
end K67
namespace K67
open Classical
def E (es : List (Nat × Nat)) (x y : Nat) : Prop := (x, y) ∈ es ∨ (y, x) ∈ es
/-- neighbours after k points went -/
def FB (es : List (Nat × Nat)) (L : List Nat) : Nat → Nat → Nat → Prop
  | 0, x, y => E es x y
  | k + 1, x, y => FB es L k x y ∨ (x ≠ y ∧ x ∈ L.drop (k + 1) ∧ y ∈ L.drop (k + 1) ∧ ∃ v, L[k]? = some v ∧ FB es L k v x ∧ FB es L k v y)
variable {es : List (Nat × Nat)} {L : List Nat} {p : Nat}
theorem FB.symm : ∀ {k x y : Nat}, FB es L k x y → FB es L k y x
  | 0, _, _, h => h.elim .inr .inl
  | _ + 1, _, _, h => h.elim (fun h => .inl h.symm) fun ⟨h1, h2, h3, v, h4, h5, h6⟩ => .inr ⟨h1.symm, h3, h2, v, h4, h6, h5⟩
theorem FB.ne (ok : ∀ a ∈ es, a.1 < a.2 ∧ a.2 < p) : ∀ {k x y : Nat}, FB es L k x y → x ≠ y
  | 0, x, y, h => by
    rcases h with h | h
    · have := ok _ h; simp only at this; omega
    · have := ok _ h; simp only at this; omega
  | _ + 1, _, _, h => h.elim (fun h => FB.ne ok h) fun h => h.1
theorem FB.lt (ok : ∀ a ∈ es, a.1 < a.2 ∧ a.2 < p) (hL : ∀ r ∈ L, r < p) : ∀ {k x y : Nat}, FB es L k x y → x < p ∧ y < p
  | 0, x, y, h => by
    rcases h with h | h
    · have := ok _ h; simp only at this; omega
    · have := ok _ h; simp only at this; omega
  | _ + 1, _, _, h => h.elim (fun h => FB.lt ok hL h) fun h => ⟨hL _ (List.mem_of_mem_drop h.2.1), hL _ (List.mem_of_mem_drop h.2.2.1)⟩
theorem FB.mono {k j x y : Nat} (h : FB es L k x y) (hk : k ≤ j) : FB es L j x y := by
  induction hk with
  | refl => exact h
  | step _ ih => exact .inl ih
theorem not_drop (nd : L.Nodup) {k j v : Nat} (h : L[k]? = some v) (hj : k < j) : v ∉ L.drop j := by
  intro hm
  obtain ⟨i, hi, e⟩ := List.mem_iff_getElem.mp hm
  rw [List.getElem_drop] at e
  obtain ⟨hk, e2⟩ := List.getElem?_eq_some_iff.mp h
  rw [List.length_drop] at hi
  have := List.pairwise_iff_getElem.mp nd k (j + i) hk (by omega) (by omega)
  exact this (e2.trans e.symm)
theorem FB.stay (nd : L.Nodup) {k j x y : Nat} (hx : L[k]? = some x) (hk : k ≤ j) (h : FB es L j x y) : FB es L k x y := by
  induction hk with
  | refl => exact h
  | step hk ih =>
    rcases h with h | ⟨_, h2, _⟩
    · exact ih h
    · exact absurd h2 (not_drop nd hx (Nat.lt_succ_of_le hk))
theorem mem_drop_succ {k v x : Nat} (h : L[k]? = some v) : x ∈ L.drop k ↔ x = v ∨ x ∈ L.drop (k + 1) := by
  obtain ⟨hk, e⟩ := List.getElem?_eq_some_iff.mp h
  rw [List.drop_eq_getElem_cons hk, List.mem_cons, e]
/-- the later points of the point at k -/
noncomputable def lat (es : List (Nat × Nat)) (L : List Nat) (k v : Nat) : List Nat := (L.drop (k + 1)).filter fun y => decide (FB es L k v y)
theorem lat_mem {k v y : Nat} : y ∈ lat es L k v ↔ y ∈ L.drop (k + 1) ∧ FB es L k v y := by
  unfold lat; rw [List.mem_filter, decide_eq_true_eq]
/-- two lines of one point go on -/
theorem lat_up (nd : L.Nodup) {k q v u w : Nat} {r : List Nat} (hv : L[k]? = some v) (hl : lat es L k v = u :: r) (hu : L[q]? = some u) (hw : w ∈ r) : k < q ∧ w ∈ lat es L q u := by
  have hu' : u ∈ lat es L k v := by rw [hl]; exact List.mem_cons_self
  have hw' : w ∈ lat es L k v := by rw [hl]; exact List.mem_cons_of_mem _ hw
  rw [lat_mem] at hu' hw'
  have hkq : k < q := by
    apply Classical.byContradiction
    intro c
    have h1 := hu'.1
    exact not_drop nd hu (j := k + 1) (by omega) h1
  have hs : (u :: r).Sublist (L.drop (k + 1)) := by rw [← hl]; unfold lat; exact List.filter_sublist
  have ndr : (u :: r).Nodup := hs.nodup (nd.sublist (List.drop_sublist _ _))
  have hne : u ≠ w := fun e => (List.nodup_cons.mp ndr).1 (e ▸ hw)
  refine ⟨hkq, ?_⟩
  rw [lat_mem]
  constructor
  · -- w behind u
    obtain ⟨hq, eq⟩ := List.getElem?_eq_some_iff.mp hu
    have e1 : L.drop (k + 1) = (L.drop (k + 1)).take (q - (k + 1)) ++ (u :: L.drop (q + 1)) := by
      have z := List.take_append_drop (q - (k + 1)) (L.drop (k + 1))
      rw [List.drop_drop] at z
      rw [show k + 1 + (q - (k + 1)) = q by omega, List.drop_eq_getElem_cons hq, eq] at z
      exact z.symm
    have hp : (u :: r).Pairwise fun a b => L.idxOf a < L.idxOf b := by
      refine List.Pairwise.sublist (hs.trans (List.drop_sublist _ _)) ?_
      rw [List.pairwise_iff_getElem]
      intro i j hi hj hij
      rw [List.Nodup.idxOf_getElem nd, List.Nodup.idxOf_getElem nd]
      exact hij
    have h1 := (List.pairwise_cons.mp hp).1 w hw
    have hwL : w ∈ L := List.mem_of_mem_drop hw'.1
    have hwi : L.idxOf w < L.length := List.idxOf_lt_length_of_mem hwL
    have h2 : L.idxOf u = q := by
      have := List.Nodup.idxOf_getElem nd q hq
      rw [eq] at this
      exact this
    have h3 : L[L.idxOf w] = w := List.getElem_idxOf hwi
    rw [List.mem_iff_getElem]
    refine ⟨L.idxOf w - (q + 1), by rw [List.length_drop]; omega, ?_⟩
    rw [List.getElem_drop]
    simp only [show q + 1 + (L.idxOf w - (q + 1)) = L.idxOf w by omega]
    exact h3
  · have : FB es L (k + 1) u w := .inr ⟨hne, hu'.1, hw'.1, v, hv, hu'.2, hw'.2⟩
    exact this.mono hkq
theorem lat_step (nd : L.Nodup) {q v w : Nat} (hv : L[q]? = some v) (hw : w ∈ lat es L q v) : ∃ u r q', lat es L q v = u :: r ∧ L[q']? = some u ∧ q < q' ∧ (w = u ∨ w ∈ lat es L q' u) := by
  cases hl : lat es L q v with
  | nil => rw [hl] at hw; cases hw
  | cons u r =>
    have hu : u ∈ lat es L q v := by rw [hl]; exact List.mem_cons_self
    have hu' := List.mem_of_mem_drop (lat_mem.mp hu).1
    obtain ⟨q', hq', e⟩ := List.mem_iff_getElem.mp hu'
    have eq : L[q']? = some u := by rw [List.getElem?_eq_getElem hq', e]
    have hlt : q < q' := by
      apply Classical.byContradiction
      intro c
      exact not_drop nd eq (j := q + 1) (by omega) (lat_mem.mp hu).1
    refine ⟨u, r, q', rfl, eq, hlt, ?_⟩
    rw [hl] at hw
    rcases List.mem_cons.mp hw with h | h
    · exact .inl h
    · exact .inr (lat_up nd hv hl eq h).2
/-- the state of the elimination -/
structure Es (es : List (Nat × Nat)) (L : List Nat) (k : Nat) (A : Nat → List Nat) (F : List (Nat × Nat)) : Prop where
  nd : ∀ x, (A x).Nodup
  mem : ∀ x ∈ L.drop k, ∀ y, y ∈ A x ↔ y ∈ L.drop k ∧ FB es L k x y
  fm : ∀ a b, (a, b) ∈ F ↔ a < b ∧ FB es L k a b ∧ ¬ E es a b
  fl : F.length ≤ k * 100
theorem Es.step (ok : ∀ a ∈ es, a.1 < a.2 ∧ a.2 < p) (nd : L.Nodup) {k v : Nat} {A A' : Nat → List Nat} {F C : List (Nat × Nat)} (h : Es es L k A F) (hv : L[k]? = some v)
    (nd' : ∀ x, (A' x).Nodup) (hm : ∀ a b, b ∈ A' a ↔ (b ∈ A a ∧ ¬ (b = v ∧ a ∈ A v)) ∨ (a ∈ A v ∧ b ∈ A v ∧ a ≠ b))
    (hc : ∀ a b, (a, b) ∈ C ↔ a ∈ A v ∧ b ∈ A v ∧ a < b ∧ b ∉ A a) (hl : C.length ≤ 100) : Es es L (k + 1) A' (F ++ C) := by
  have hvm : v ∈ L.drop k := (mem_drop_succ hv).mpr (.inl rfl)
  have hS : ∀ x, x ∈ A v ↔ x ∈ L.drop (k + 1) ∧ FB es L k v x := by
    intro x
    rw [h.mem v hvm, mem_drop_succ hv]
    constructor
    · rintro ⟨h1 | h1, h2⟩
      · exact absurd h1.symm (h2.ne ok)
      · exact ⟨h1, h2⟩
    · rintro ⟨h1, h2⟩
      exact ⟨.inr h1, h2⟩
  refine ⟨nd', ?_, ?_, ?_⟩
  · intro x hx y
    have hx' : x ∈ L.drop k := (mem_drop_succ hv).mpr (.inr hx)
    have hxv : x ≠ v := fun e => not_drop nd hv (Nat.lt_succ_self k) (e ▸ hx)
    rw [hm, h.mem x hx', hS x, hS y, mem_drop_succ hv]
    constructor
    · rintro (⟨⟨h1, h2⟩, h3⟩ | ⟨⟨h1, h2⟩, ⟨h3, h4⟩, h5⟩)
      · rcases h1 with h1 | h1
        · subst h1
          exact absurd ⟨rfl, hx, h2.symm⟩ h3
        · exact ⟨h1, .inl h2⟩
      · exact ⟨h3, .inr ⟨h5, hx, h3, v, hv, h2, h4⟩⟩
    · rintro ⟨h1, h2 | ⟨h2, _, _, v', hv', h3, h4⟩⟩
      · refine .inl ⟨⟨.inr h1, h2⟩, fun c => ?_⟩
        rw [c.1] at h1
        exact not_drop nd hv (Nat.lt_succ_self k) h1
      · rw [hv] at hv'
        cases hv'
        exact .inr ⟨⟨hx, h3⟩, ⟨h1, h4⟩, h2⟩
  · intro a b
    rw [List.mem_append, h.fm, hc, hS a, hS b]
    constructor
    · rintro (⟨h1, h2, h3⟩ | ⟨⟨h1, h2⟩, ⟨h3, h4⟩, h5, h6⟩)
      · exact ⟨h1, .inl h2, h3⟩
      · have ha : a ∈ L.drop k := (mem_drop_succ hv).mpr (.inr h1)
        have hb : b ∈ L.drop k := (mem_drop_succ hv).mpr (.inr h3)
        refine ⟨h5, .inr ⟨by omega, h1, h3, v, hv, h2, h4⟩, fun e => h6 ?_⟩
        rw [h.mem a ha]
        exact ⟨hb, FB.mono (k := 0) e (Nat.zero_le k)⟩
    · rintro ⟨h1, h2, h3⟩
      by_cases q : FB es L k a b
      · exact .inl ⟨h1, q, h3⟩
      · rcases h2 with h2 | ⟨h2, h4, h5, v', hv', h6, h7⟩
        · exact absurd h2 q
        · rw [hv] at hv'
          cases hv'
          refine .inr ⟨⟨h4, h6⟩, ⟨h5, h7⟩, h1, fun c => q ?_⟩
          rw [h.mem a ((mem_drop_succ hv).mpr (.inr h4))] at c
          exact c.2
  · have := h.fl
    rw [List.length_append]
    omega
theorem Es.sym {k v : Nat} {A : Nat → List Nat} {F : List (Nat × Nat)} (h : Es es L k A F) (hv : L[k]? = some v) : ∀ a b, a ∈ A v → b ∈ A v → (b ∈ A a ↔ a ∈ A b) := by
  intro a b ha hb
  have hvm : v ∈ L.drop k := (mem_drop_succ hv).mpr (.inl rfl)
  rw [h.mem v hvm] at ha hb
  rw [h.mem a ha.1, h.mem b hb.1]
  exact ⟨fun c => ⟨ha.1, c.2.symm⟩, fun c => ⟨hb.1, c.2.symm⟩⟩
theorem Es.init {A : Nat → List Nat} (all : ∀ r, r < p → r ∈ L) (ok : ∀ a ∈ es, a.1 < a.2 ∧ a.2 < p) (nd : ∀ x, (A x).Nodup) (hm : ∀ x, x < p → ∀ y, y ∈ A x ↔ E es x y) (hL : ∀ r ∈ L, r < p) : Es es L 0 A [] := by
  refine ⟨nd, ?_, ?_, by simp⟩
  · intro x hx y
    rw [hm x (hL x (List.mem_of_mem_drop hx))]
    constructor
    · intro h
      have : FB es L 0 x y := h
      exact ⟨all y (this.lt ok hL).2, h⟩
    · exact fun h => h.2
  · intro a b
    constructor
    · intro h; cases h
    · exact fun h => absurd h.2.1 h.2.2
/-- the lines of the filled graph -/
theorem filled_E (ok : ∀ a ∈ es, a.1 < a.2 ∧ a.2 < p) (hL : ∀ r ∈ L, r < p) {k : Nat} {F fs : List (Nat × Nat)} (fm : ∀ a b, (a, b) ∈ F ↔ a < b ∧ FB es L k a b ∧ ¬ E es a b)
    (hf : ∀ a, a ∈ fs ↔ a ∈ es ∨ a ∈ F) : (∀ a ∈ fs, a.1 < a.2 ∧ a.2 < p) ∧ ∀ x y, E fs x y ↔ FB es L k x y := by
  constructor
  · intro a ha
    rcases (hf a).mp ha with h | h
    · exact ok a h
    · have := (fm a.1 a.2).mp h
      exact ⟨this.1, (this.2.1.lt ok hL).2⟩
  · intro x y
    unfold E
    rw [hf, hf]
    constructor
    · rintro ((h | h) | (h | h))
      · exact FB.mono (k := 0) (.inl h) (Nat.zero_le k)
      · exact ((fm _ _).mp h).2.1
      · exact FB.mono (k := 0) (.inr h) (Nat.zero_le k)
      · exact ((fm _ _).mp h).2.1.symm
    · intro h
      by_cases q : E es x y
      · rcases q with q | q
        · exact .inl (.inl q)
        · exact .inr (.inl q)
      · have := h.ne ok
        by_cases c : x < y
        · exact .inl (.inr ((fm _ _).mpr ⟨c, h, q⟩))
        · exact .inr (.inr ((fm _ _).mpr ⟨by omega, h.symm, fun e => q (e.elim .inr .inl)⟩))
end K67
namespace K67
open DL
def dK (l : List Nat) : List (D × D) := l.map fun k : Nat => (D.int k, D.bl true)
def nO (l : List Nat) : O := .dct false (dK l)
def setIns (l : List Nat) (k : Nat) : List Nat := if k ∈ l then l else l ++ [k]
theorem dK_kvs (l : List Nat) : dK l = kvs kI (fun _ : Unit => D.bl true) (l.map fun k => (k, ())) := by
  unfold kvs dK
  rw [List.map_map]
  rfl
theorem unit_keys (l : List Nat) : (l.map fun k => (k, ())).map (·.1) = l := by
  rw [List.map_map]
  exact List.map_id l
theorem get_unit (l : List Nat) (k : Nat) : aGet (l.map fun k => (k, ())) k = if k ∈ l then some () else none := by
  by_cases h : k ∈ l
  · rw [if_pos h]
    obtain ⟨v, e⟩ := aGet_key.mp (show k ∈ (l.map fun k => (k, ())).map (·.1) by rw [unit_keys]; exact h)
    rw [e]
  · rw [if_neg h]
    exact aGet_none.mpr (by rw [unit_keys]; exact h)
theorem look_dK (l : List Nat) (k : Nat) : lookB false (dK l) (.int k) = some (if k ∈ l then some (.bl true) else none) := by
  rw [dK_kvs, lookB_kI, get_unit]
  by_cases h : k ∈ l
  · rw [if_pos h, if_pos h]; rfl
  · rw [if_neg h, if_neg h]; rfl
theorem put_dK (l : List Nat) (k : Nat) : putB false (dK l) (.int k) (.bl true) = some (dK (setIns l k)) := by
  rw [dK_kvs, putB_kI (fun _ : Unit => D.bl true) (v := ()), dK_kvs]
  congr 2
  unfold aPut setIns
  rw [get_unit]
  by_cases h : k ∈ l
  · rw [if_pos h, if_pos h]
    simp
  · rw [if_neg h, if_neg h]
    simp
theorem dK_len (l : List Nat) : (dK l).length = l.length := by simp [dK]
theorem dK_keys (l : List Nat) : (dK l).map (·.1) = l.map eN := by
  unfold dK; rw [List.map_map]; rfl
theorem find_dK : ∀ (l : List Nat) (k : Nat), k ∈ l → findG toK (dK l) (.inl k) = some (.bl true)
  | [], _, h => by cases h
  | a :: l, k, h => by
    show (if toK (.int a) = some (.inl (k : Int)) then some (D.bl true) else findG toK (dK l) (.inl k)) = _
    by_cases e : a = k
    · subst e; exact if_pos rfl
    · rw [if_neg (by intro q; apply e; have := Sum.inl.inj (Option.some.inj q); omega)]
      rcases List.mem_cons.mp h with h | h
      · exact absurd h.symm e
      · exact find_dK l k h
theorem drop_dK (l : List Nat) (k : Nat) : dropG toK (dK l) (.inl (k : Int)) = dK (l.filter fun a => decide (a ≠ k)) := by
  unfold dropG dK
  rw [List.filter_map]
  congr 1
  apply List.filter_congr
  intro a _
  show decide (toK (.int a) ≠ some (.inl (k : Int))) = _
  congr 1
  apply propext
  constructor
  · intro h q; exact h (by rw [q]; rfl)
  · intro h q; apply h; have := Sum.inl.inj (Option.some.inj q); omega
theorem mem_ins {l : List Nat} {k a : Nat} : a ∈ setIns l k ↔ a ∈ l ∨ a = k := by
  unfold setIns
  by_cases h : k ∈ l
  · rw [if_pos h]
    exact ⟨.inl, fun q => q.elim id fun e => e ▸ h⟩
  · rw [if_neg h, List.mem_append, List.mem_singleton]
theorem nd_ins {l : List Nat} {k : Nat} (h : l.Nodup) : (setIns l k).Nodup := by
  unfold setIns
  by_cases q : k ∈ l
  · rw [if_pos q]; exact h
  · rw [if_neg q, List.nodup_append]
    refine ⟨h, by simp, ?_⟩
    intro a ha b hb e
    rw [List.mem_singleton] at hb
    exact q (hb ▸ e ▸ ha)
def upd (A : Nat → List Nat) (q : Nat) (l : List Nat) : Nat → List Nat := fun r => if r = q then l else A r
theorem upd_at {A : Nat → List Nat} {q : Nat} {l : List Nat} : upd A q l q = l := if_pos rfl
theorem upd_ne {A : Nat → List Nat} {q r : Nat} {l : List Nat} (h : r ≠ q) : upd A q l r = A r := if_neg h
def link (A : Nat → List Nat) (x y : Nat) : Nat → List Nat := upd (upd A x (setIns (A x) y)) y (setIns (upd A x (setIns (A x) y) y) x)
theorem mem_link {A : Nat → List Nat} {x y a b : Nat} (h : x ≠ y) : b ∈ link A x y a ↔ b ∈ A a ∨ (a = x ∧ b = y) ∨ (a = y ∧ b = x) := by
  unfold link
  by_cases h1 : a = y
  · subst h1
    rw [upd_at, mem_ins, upd_ne (Ne.symm h)]
    constructor
    · rintro (q | q)
      · exact .inl q
      · exact .inr (.inr ⟨rfl, q⟩)
    · rintro (q | ⟨q, _⟩ | ⟨_, q⟩)
      · exact .inl q
      · exact absurd q.symm h
      · exact .inr q
  · rw [upd_ne h1]
    by_cases h2 : a = x
    · subst h2
      rw [upd_at, mem_ins]
      constructor
      · rintro (q | q)
        · exact .inl q
        · exact .inr (.inl ⟨rfl, q⟩)
      · rintro (q | ⟨_, q⟩ | ⟨q, _⟩)
        · exact .inl q
        · exact .inr q
        · exact absurd q h1
    · rw [upd_ne h2]
      constructor
      · exact .inl
      · rintro (q | ⟨q, _⟩ | ⟨q, _⟩)
        · exact q
        · exact absurd q h2
        · exact absurd q h1
theorem nd_link {A : Nat → List Nat} {x y : Nat} (h : ∀ a, (A a).Nodup) (a : Nat) : (link A x y a).Nodup := by
  unfold link
  by_cases h1 : a = y
  · subst h1
    rw [upd_at]
    apply nd_ins
    by_cases h2 : a = x
    · subst h2; rw [upd_at]; exact nd_ins (h _)
    · rw [upd_ne h2]; exact h _
  · rw [upd_ne h1]
    by_cases h2 : a = x
    · subst h2; rw [upd_at]; exact nd_ins (h _)
    · rw [upd_ne h2]; exact h _
def nM (M0 : Mem) (p : Nat) (A : Nat → List Nat) (T : Mem) : Mem := M0 ++ objs p (fun i => nO (A i)) ++ T
section
variable {M0 : Mem} {p : Nat} {A : Nat → List Nat} {T : Mem}
theorem nM_len : (nM M0 p A T).length = M0.length + p + T.length := by
  unfold nM; rw [List.length_append, List.length_append, objs_len]
theorem nM_get {q : Nat} (h : q < p) : (nM M0 p A T)[M0.length + q]? = some (nO (A q)) := by
  unfold nM
  rw [List.getElem?_append_left (by rw [List.length_append, objs_len]; omega), objs_get h]
theorem nM_set {q : Nat} {l : List Nat} (h : q < p) : (nM M0 p A T).set (M0.length + q) (nO l) = nM M0 p (upd A q l) T := by
  unfold nM
  rw [List.set_append_left _ _ (by rw [List.length_append, objs_len]; omega), objs_set]
  congr 2
  apply objs_congr
  intro r _
  unfold upd
  by_cases e : r = q
  · rw [if_pos e, if_pos e]
  · rw [if_neg e, if_neg e]
theorem nM_t {i : Nat} : (nM M0 p A T)[M0.length + p + i]? = T[i]? := by
  unfold nM
  rw [List.getElem?_append_right (by rw [List.length_append, objs_len]; omega), List.length_append, objs_len]
  congr 1
  omega
theorem nM_tset {i : Nat} {o : O} : (nM M0 p A T).set (M0.length + p + i) o = nM M0 p A (T.set i o) := by
  unfold nM
  rw [List.set_append_right _ _ (by rw [List.length_append, objs_len]; omega), List.length_append, objs_len]
  congr 2
  omega
def nI (M0 : Mem) (p : Nat) (g : Nat → Bool) : List D := (List.range p).map fun i => cond (g i) (.dct false []) (.ref (M0.length + i))
theorem nI_len {g : Nat → Bool} : (nI M0 p g).length = p := by simp [nI]
theorem nI_get {g : Nat → Bool} {q : Nat} (h : q < p) (hg : g q = false) : (nI M0 p g)[q]? = some (.ref (M0.length + q)) := by
  unfold nI
  rw [List.getElem?_map, List.getElem?_range h, Option.map_some, hg]
  rfl
theorem sub_near {g : Nat → Bool} {q : Nat} (h : q < p) (hg : g q = false) : subD' (.ref (M0.length + p)) (.int q) (nM M0 p A (.lst (nI M0 p g) :: T)) = some (.ok (.ref (M0.length + q)), nM M0 p A (.lst (nI M0 p g) :: T)) :=
  sub_ref (nM_t (i := 0)) (nI_get h hg)
theorem st_near {q y : Nat} {ρ : En} (h : q < p) (hl : (A q).length ≤ 1000000) : storeM (.ref (M0.length + q)) (.int y) (.bl true) ρ (nM M0 p A T) = some (.ok ρ, nM M0 p (upd A q (setIns (A q) y)) T) := by
  have z := store_dct (ρ := ρ) (nM_get (M0 := M0) (A := A) (T := T) h) (by rw [dK_len]; exact hl) (put_dK (A q) y)
  rw [z]
  congr 2
  exact nM_set h
theorem nI_refs : refs M0 p = nI M0 p fun _ => false := by
  unfold refs nI
  rw [List.range'_eq_map_range, List.map_map]
  rfl
end
theorem cmp_lstT {m : Mo (List D)} {ys : List D} {M M' : Mem} (e : m M = some (.ok ys, M')) (h : ys.length ≤ 1000000) : cmpD true stL [] .lst .lst m M = some (.ok (.ref M'.length), M' ++ [.lst ys]) := by
  unfold cmpD
  rw [bnd_of (ne_ok e), foldL_ok (β := D) ys [] (by simpa using h)]
  rfl
theorem small_nd {p : Nat} {l : List Nat} (h : l.Nodup) (hb : ∀ a ∈ l, a < p) (hp : p ≤ 9) : l.length ≤ 9 := Nat.le_trans (len_nodup h hb) hp
theorem l1_near_run {G U : Option D} {M0 : Mem} {p x y : Nat} {A : Nat → List Nat} {T : Mem} (hx : x < p) (hy : y < p) (h1 : ∀ a, (A a).length ≤ 100) :
    l1_neighbours [G, U, some (.ref (M0.length + p)), some (.int x), some (.int y)] (nM M0 p A (.lst (nI M0 p fun _ => false) :: T)) =
      some (.nx [G, U, some (.ref (M0.length + p)), some (.int x), some (.int y)], nM M0 p (link A x y) (.lst (nI M0 p fun _ => false) :: T)) := by
  have e1 := sub_near (M0 := M0) (A := A) (T := T) (g := fun _ => false) hx rfl
  have e2 := sub_near (M0 := M0) (A := upd A x (setIns (A x) y)) (T := T) (g := fun _ => false) hy rfl
  have s1 := st_near (M0 := M0) (A := A) (T := .lst (nI M0 p fun _ => false) :: T) (y := y) (ρ := [G, U, some (.ref (M0.length + p)), some (.int x), some (.int y)]) hx (by have := h1 x; omega)
  have s2 := st_near (M0 := M0) (A := upd A x (setIns (A x) y)) (T := .lst (nI M0 p fun _ => false) :: T) (y := x) (ρ := [G, U, some (.ref (M0.length + p)), some (.int x), some (.int y)]) hy (by
    by_cases q : y = x
    · subst q
      rw [upd_at]
      unfold setIns
      have := h1 y
      split
      · omega
      · rw [List.length_append]; simp; omega
    · rw [upd_ne q]
      have := h1 y; omega)
  unfold l1_neighbours link
  simp -implicitDefEqProofs [sE, Mo.bnd, Mo.ret, s0, e1, e2, s1, s2]
theorem neigh_g {M0 : Mem} {p : Nat} {es : List (Nat × Nat)} (hp : p ≤ 9) (ok : ∀ a ∈ es, a.1 < a.2 ∧ a.2 < p) :
    ∃ A : Nat → List Nat, g_neighbours (startE N_neighbours [graD p es]) M0 = some (.ret (.ref (M0.length + p)), nM M0 p A [.lst (nI M0 p fun _ => false)]) ∧ (∀ x, (A x).Nodup) ∧ ∀ x y, y ∈ A x ↔ E es x y := by
  obtain ⟨ρ1, M1, e1, a, b, A, rfl, rfl, hn, hm⟩ := forL_ind (h := fun d ρ => .bnd (itemsT 2 d) fun ds => (gConsD (fun d ρ => .ret (ρ.set 3 (some d))) (gConsD (fun d ρ => .ret (ρ.set 4 (some d))) gNilD)) ds ρ) (body := l1_neighbours)
    (fun i ρ M' => ∃ (a b : Option D) (A : Nat → List Nat), ρ = [some (graD p es), none, some (.ref (M0.length + p)), a, b] ∧ M' = nM M0 p A [.lst (nI M0 p fun _ => false)] ∧ (∀ x, (A x).Nodup) ∧ ∀ x y, y ∈ A x ↔ E (es.take i) x y)
    (es.map eP) 0 [some (graD p es), none, some (.ref (M0.length + p)), none, none] (nM M0 p (fun _ => []) [.lst (nI M0 p fun _ => false)])
    ⟨none, none, fun _ => [], rfl, rfl, fun _ => .nil, fun x y => by simp [E]⟩ (by
      intro j dd ρ M' hj ⟨a, b, A, e1, e2, hn, hm⟩
      subst e1 e2
      rw [Nat.zero_add] at hm ⊢
      obtain ⟨hj', hd⟩ := List.getElem?_eq_some_iff.mp hj
      rw [List.length_map] at hj'
      rw [List.getElem_map] at hd
      subst hd
      have hok := ok _ (List.getElem_mem hj')
      have hlt : ∀ x y, y ∈ A x → y < p := by
        intro x y h
        rcases (hm x y).mp h with h | h
        · have := ok _ (List.mem_of_mem_take h); simp only at this; omega
        · have := ok _ (List.mem_of_mem_take h); simp only at this; omega
      have z := l1_near_run (G := some (graD p es)) (U := none) (M0 := M0) (x := es[j].1) (y := es[j].2) (A := A) (T := []) (by omega) hok.2 (fun a => by have := small_nd (hn a) (hlt a) hp; omega)
      refine ⟨_, _, ?_, _, _, .inl z, _, _, _, rfl, rfl, nd_link hn, ?_⟩
      · simp -implicitDefEqProofs [eP]; rfl
      · intro x y
        rw [mem_link (by omega), hm]
        unfold E
        rw [List.take_succ_eq_append_getElem hj', List.mem_append, List.mem_append, List.mem_singleton, List.mem_singleton]
        constructor
        · rintro ((h | h) | ⟨rfl, rfl⟩ | ⟨rfl, rfl⟩)
          · exact .inl (.inl h)
          · exact .inr (.inl h)
          · exact .inl (.inr rfl)
          · exact .inr (.inr rfl)
        · rintro ((h | h) | (h | h))
          · exact .inl (.inl h)
          · have := congrArg Prod.fst h; have h2 := congrArg Prod.snd h; exact .inr (.inl ⟨this, h2⟩)
          · exact .inl (.inr h)
          · have := congrArg Prod.fst h; have h2 := congrArg Prod.snd h; exact .inr (.inr ⟨h2, this⟩))
  rw [show es.take (0 + (es.map eP).length) = es by simp] at hm
  refine ⟨A, ?_, hn, hm⟩
  · unfold g_neighbours N_neighbours
    refine (run_seq (ρ1 := [some (graD p es), none, some (.ref (M0.length + p)), none, none]) (M1 := nM M0 p (fun _ => []) [.lst (nI M0 p fun _ => false)]) ?_).trans ?_
    · unfold graD
      have hrn := rngD1_nat (n := p) (by omega)
      simp -implicitDefEqProofs [startE, sE, Mo.bnd, Mo.ret]
      rw [hrn]
      simp only [Mo.ret]
      rw [cmp_lstT (comp_new (o := .dct false []) ?_) (by simp; omega)]
      · rw [objs_rep]
        simp [nM, ← nI_refs, refs, nO, dK, objs_len]
      · intro d hd M
        simp [turn1, wipeR, one', Mo.bnd, Mo.ret]
    refine (run_seq (ρ1 := [some (graD p es), none, some (.ref (M0.length + p)), a, b]) (M1 := nM M0 p A [.lst (nI M0 p fun _ => false)]) ?_).trans ?_
    · simp only [for_app]
      unfold graD at e1 ⊢
      simp -implicitDefEqProofs at e1 ⊢
      exact e1
    · simp
theorem neighbours_run {M0 : Mem} {p : Nat} {es : List (Nat × Nat)} (hp : p ≤ 9) (ok : ∀ a ∈ es, a.1 < a.2 ∧ a.2 < p) :
    ∃ A : Nat → List Nat, m_neighbours [graD p es] M0 = some (.ok (.ref (M0.length + p)), nM M0 p A [.lst (nI M0 p fun _ => false)]) ∧ (∀ x, (A x).Nodup) ∧ ∀ x y, y ∈ A x ↔ E es x y := by
  obtain ⟨A, e, h⟩ := neigh_g (M0 := M0) hp ok
  refine ⟨A, ?_, h⟩
  unfold m_neighbours fnO
  rw [e]
  rfl
theorem norefK_dK (l : List Nat) : norefK (dK l) = true := by
  induction l with
  | nil => rfl
  | cons a r ih =>
    show norefK ((D.int a, D.bl true) :: dK r) = true
    simp [norefK, ih, noref]
def nearD (p : Nat) (A : Nat → List Nat) : D := .lst ((List.range p).map fun i => .dct false (dK (A i)))
/-- .. at rest -/
theorem neighbours_c_run {M0 : Mem} {p : Nat} {es : List (Nat × Nat)} (hp : p ≤ 9) (ok : ∀ a ∈ es, a.1 < a.2 ∧ a.2 < p) :
    ∃ A : Nat → List Nat, m_neighbours_c [graD p es] M0 = some (.ok (nearD p A), M0) ∧ (∀ x, (A x).Nodup) ∧ ∀ x y, y ∈ A x ↔ E es x y := by
  obtain ⟨A, e, h⟩ := neigh_g (M0 := M0) hp ok
  refine ⟨A, ?_, h⟩
  have em : nM M0 p A [.lst (nI M0 p fun _ => false)] = M0 ++ (objs p (fun i => nO (A i)) ++ [.lst (nI M0 p fun _ => false)]) := by
    unfold nM; rw [List.append_assoc]
  unfold m_neighbours_c
  refine fnD_obj (em ▸ e) ?_
  rw [← em]
  show frF _ _ 3 (M0.length + p) = _
  unfold frF
  have t0 : (nM M0 p A [.lst (nI M0 p fun _ => false)])[M0.length + p]? = some (.lst (nI M0 p fun _ => false)) := nM_t (i := 0)
  rw [if_neg (by omega), t0]
  show (substL _ (nI M0 p fun _ => false)).map D.lst = _
  have z : substL (frF (nM M0 p A [.lst (nI M0 p fun _ => false)]) M0.length 2) (nI M0 p fun _ => false) = some ((List.range p).map fun i => .dct false (dK (A i))) := by
    unfold nI
    refine substL_maps fun i hi => ?_
    rw [List.mem_range] at hi
    show frF _ _ 2 (M0.length + i) = _
    exact frF_dct (nM_get hi) (by omega) (norefK_dK _)
  rw [z]
  rfl
end K67
namespace K67
open DL
section
variable {M0 : Mem} {p : Nat} {A : Nat → List Nat} {T : Mem}
theorem dct_near {q : Nat} (h : q < p) : dctB (nM M0 p A T) (.ref (M0.length + q)) = some (false, dK (A q)) := by
  unfold dctB
  rw [show res (nM M0 p A T) (.ref (M0.length + q)) = .dct false (dK (A q)) from res_ref (nM_get h)]
theorem nin_near {q y : Nat} (h : q < p) : ninAll (.int y) (.ref (M0.length + q)) (nM M0 p A T) = some (.ok (.bl (!decide (y ∈ A q))), nM M0 p A T) := by
  unfold ninAll
  simp only [dct_near h, look_dK]
  by_cases e : y ∈ A q
  · simp [e]
  · simp [e]
theorem pop_near {q v : Nat} (h : q < p) (hv : v ∈ A q) : chkM isDc (.ref (M0.length + q)) (dpopD (.ref (M0.length + q)) [.int v]) (nM M0 p A T) = some (.ok (.bl true), nM M0 p (upd A q ((A q).filter fun a => decide (a ≠ v))) T) := by
  unfold chkM
  have e1 : isDc (nM M0 p A T) (.ref (M0.length + q)) = true := by unfold isDc; rw [dct_near h]; rfl
  have e2 : curK (nM M0 p A T) (.ref (M0.length + q)) = some (M0.length + q, dK (A q)) := by
    unfold curK
    simp only [nM_get h, nO]
  rw [e1, cond_true]
  unfold dpopD
  simp only [e2, toK, find_dK (A q) v hv, drop_dK]
  congr 2
  exact nM_set h
end
def T3 (M0 : Mem) (p : Nat) (g : Nat → Bool) (F C : List (Nat × Nat)) : Mem := [.lst (nI M0 p g), .lst (F.map eP), .lst (C.map eP)]
def ER (M0 : Mem) (p v : Nat) (S : List Nat) (one oth : Option D) : En := [some (.ref (M0.length + p)), some (.int v), some (.lst (S.map eN)), some (.ref (M0.length + p + 2)), one, oth]
theorem l1_el {M0 : Mem} {p v x y : Nat} {A : Nat → List Nat} {S : List Nat} {g : Nat → Bool} {F C : List (Nat × Nat)} (hx : x < p) (hy : y < p) (gx : g x = false) (gy : g y = false) (hA : ∀ a, (A a).length ≤ 100) (hC : C.length ≤ 1000) :
    l1_eliminated (ER M0 p v S (some (.int x)) (some (.int y))) (nM M0 p A (T3 M0 p g F C)) =
      if x < y ∧ y ∉ A x then some (.nx (ER M0 p v S (some (.int x)) (some (.int y))), nM M0 p (link A x y) (T3 M0 p g F (C ++ [(x, y)])))
      else some (.nx (ER M0 p v S (some (.int x)) (some (.int y))), nM M0 p A (T3 M0 p g F C)) := by
  have e1 : subD' (.ref (M0.length + p)) (.int x) (nM M0 p A (T3 M0 p g F C)) = some (.ok (.ref (M0.length + x)), nM M0 p A (T3 M0 p g F C)) := sub_near hx gx
  have e2 : ∀ B, subD' (.ref (M0.length + p)) (.int y) (nM M0 p B (T3 M0 p g F C)) = some (.ok (.ref (M0.length + y)), nM M0 p B (T3 M0 p g F C)) := fun B => sub_near hy gy
  have e3 := nin_near (M0 := M0) (A := A) (T := T3 M0 p g F C) (y := y) hx
  have s1 := st_near (M0 := M0) (A := A) (T := T3 M0 p g F C) (y := y) (ρ := ER M0 p v S (some (.int x)) (some (.int y))) hx (by have := hA x; omega)
  have s2 := st_near (M0 := M0) (A := upd A x (setIns (A x) y)) (T := T3 M0 p g F C) (y := x) (ρ := ER M0 p v S (some (.int x)) (some (.int y))) hy (by
    by_cases q : y = x
    · subst q
      rw [upd_at]
      unfold setIns
      have := hA y
      split
      · omega
      · rw [List.length_append]; simp; omega
    · rw [upd_ne q]
      have := hA y; omega)
  have i1 : isL (nM M0 p (link A x y) (T3 M0 p g F C)) (.ref (M0.length + p + 2)) = true := isL_ref (nM_t (i := 2))
  have a1 := append_run (d := eP (x, y)) (nM_t (M0 := M0) (p := p) (A := link A x y) (T := T3 M0 p g F C) (i := 2)) (by rw [PySem.sizeLine_eq]; simp; omega)
  rw [nM_tset] at a1
  have a2 : appendD (.ref (M0.length + p + 2)) [eP (x, y)] (nM M0 p (link A x y) (T3 M0 p g F C)) = some (.ok .non, nM M0 p (link A x y) (T3 M0 p g F (C ++ [(x, y)]))) := by
    rw [a1]
    simp [T3]
  unfold link at i1 a2
  unfold eP at a2
  unfold ER at s1 s2 ⊢
  by_cases c1 : x < y
  · have c1' : (x : Int) < y := by omega
    by_cases c2 : y ∈ A x
    · rw [if_neg (fun h => h.2 c2)]
      unfold l1_eliminated
      simp -implicitDefEqProofs [c1', sE, Mo.bnd, Mo.ret, e1, e3, c2]
    · rw [if_pos ⟨c1, c2⟩]
      unfold l1_eliminated link
      simp -implicitDefEqProofs [c1', sE, Mo.bnd, Mo.ret, e1, e3, c2, e2, s0, s1, s2, chkM, i1, a2, tup_ok, PySem.sizeLine_eq]
  · have c1' : ¬ (x : Int) < y := by omega
    rw [if_neg (fun h => c1 h.1)]
    unfold l1_eliminated
    simp -implicitDefEqProofs [c1', sE, Mo.bnd, Mo.ret]
/-- all later ones are joined to one -/
theorem in_for {M0 : Mem} {p v x : Nat} {A : Nat → List Nat} {S : List Nat} {g : Nat → Bool} {F C : List (Nat × Nat)} {oth : Option D} (hp : p ≤ 9) (hx : x < p) (gx : g x = false) (hS : ∀ y ∈ S, y < p ∧ g y = false) (hn : ∀ a, (A a).Nodup) (hA : ∀ a, ∀ b ∈ A a, b < p)
    (hC : C.length + S.length ≤ 1000) :
    ∃ (A' : Nat → List Nat) (C' : List (Nat × Nat)) (oth' : Option D), forL none (fun d ρ => .ret (ρ.set 5 (some d))) l1_eliminated (S.map eN) (ER M0 p v S (some (.int x)) oth) (nM M0 p A (T3 M0 p g F C)) = some (.nx (ER M0 p v S (some (.int x)) oth'), nM M0 p A' (T3 M0 p g F C')) ∧
      (∀ a, (A' a).Nodup) ∧ (∀ a b, b ∈ A' a ↔ b ∈ A a ∨ (a = x ∧ b ∈ S ∧ x < b ∧ b ∉ A x) ∨ (b = x ∧ a ∈ S ∧ x < a ∧ a ∉ A x)) ∧
      (∀ a b, (a, b) ∈ C' ↔ (a, b) ∈ C ∨ (a = x ∧ b ∈ S ∧ x < b ∧ b ∉ A x)) ∧ C'.length ≤ C.length + S.length := by
  obtain ⟨ρ1, M1, e1, A', C', o', rfl, rfl, h1, h2, h3, h4⟩ := forL_ind (h := fun d ρ => .ret (ρ.set 5 (some d))) (body := l1_eliminated)
    (fun i ρ M => ∃ (A' : Nat → List Nat) (C' : List (Nat × Nat)) (o' : Option D), ρ = ER M0 p v S (some (.int x)) o' ∧ M = nM M0 p A' (T3 M0 p g F C') ∧
      (∀ a, (A' a).Nodup) ∧ (∀ a b, b ∈ A' a ↔ b ∈ A a ∨ (a = x ∧ b ∈ S.take i ∧ x < b ∧ b ∉ A x) ∨ (b = x ∧ a ∈ S.take i ∧ x < a ∧ a ∉ A x)) ∧
      (∀ a b, (a, b) ∈ C' ↔ (a, b) ∈ C ∨ (a = x ∧ b ∈ S.take i ∧ x < b ∧ b ∉ A x)) ∧ C'.length ≤ C.length + i)
    (S.map eN) 0 (ER M0 p v S (some (.int x)) oth) (nM M0 p A (T3 M0 p g F C)) ⟨A, C, oth, rfl, rfl, hn, by simp, by simp, by simp⟩ (by
      rintro j dd ρ M hj ⟨A', C', o', rfl, rfl, h1, h2, h3, h4⟩
      rw [Nat.zero_add] at *
      obtain ⟨hj', hd⟩ := List.getElem?_eq_some_iff.mp hj
      rw [List.length_map] at hj'
      rw [List.getElem_map] at hd
      subst hd
      have hy := hS _ (List.getElem_mem hj')
      have hb : ∀ a, ∀ b ∈ A' a, b < p := by
        intro a b h
        rcases (h2 a b).mp h with h | ⟨_, h, _⟩ | ⟨h, _⟩
        · exact hA a b h
        · exact (hS b (List.mem_of_mem_take h)).1
        · omega
      have z := l1_el (M0 := M0) (v := v) (S := S) (F := F) (A := A') hx hy.1 gx hy.2 (fun a => by have := small_nd (h1 a) (hb a) hp; omega) (C := C') (by omega)
      have hA' : S[j] ∈ A' x ↔ S[j] ∈ A x ∨ (S[j] ∈ S.take j ∧ x < S[j] ∧ S[j] ∉ A x) := by
        rw [h2]
        constructor
        · rintro (h | ⟨_, h⟩ | ⟨h, _, h5, _⟩)
          · exact .inl h
          · exact .inr h
          · omega
        · rintro (h | h)
          · exact .inl h
          · exact .inr (.inl ⟨rfl, h⟩)
      refine ⟨ER M0 p v S (some (.int x)) (some (.int S[j])), nM M0 p A' (T3 M0 p g F C'), rfl, ?_⟩
      have tk : ∀ b, b ∈ S.take (j + 1) ↔ b ∈ S.take j ∨ b = S[j] := by
        intro b
        rw [List.take_succ_eq_append_getElem hj', List.mem_append, List.mem_singleton]
      by_cases c : x < S[j] ∧ S[j] ∉ A' x
      · rw [if_pos c] at z
        have hna : S[j] ∉ A x := fun q => c.2 (hA'.mpr (.inl q))
        refine ⟨_, _, .inl z, link A' x S[j], C' ++ [(x, S[j])], some (.int S[j]), rfl, rfl, nd_link h1, ?_, ?_, by rw [List.length_append]; simp; omega⟩
        · intro a b
          rw [mem_link (by omega), h2, tk, tk]
          constructor
          · rintro ((h | ⟨rfl, h⟩ | ⟨rfl, h⟩) | ⟨rfl, rfl⟩ | ⟨rfl, rfl⟩)
            · exact .inl h
            · exact .inr (.inl ⟨rfl, .inl h.1, h.2⟩)
            · exact .inr (.inr ⟨rfl, .inl h.1, h.2⟩)
            · exact .inr (.inl ⟨rfl, .inr rfl, c.1, hna⟩)
            · exact .inr (.inr ⟨rfl, .inr rfl, c.1, hna⟩)
          · rintro (h | ⟨rfl, h | h, h5⟩ | ⟨rfl, h | h, h5⟩)
            · exact .inl (.inl h)
            · exact .inl (.inr (.inl ⟨rfl, h, h5⟩))
            · exact .inr (.inl ⟨rfl, h⟩)
            · exact .inl (.inr (.inr ⟨rfl, h, h5⟩))
            · exact .inr (.inr ⟨h, rfl⟩)
        · intro a b
          rw [List.mem_append, h3, List.mem_singleton, tk]
          constructor
          · rintro ((h | ⟨rfl, h⟩) | h)
            · exact .inl h
            · exact .inr ⟨rfl, .inl h.1, h.2⟩
            · have q1 := congrArg Prod.fst h
              have q2 := congrArg Prod.snd h
              simp only at q1 q2
              exact .inr ⟨q1, .inr q2, by rw [q2]; exact c.1, by rw [q2]; exact hna⟩
          · rintro (h | ⟨rfl, h | h, h5⟩)
            · exact .inl (.inl h)
            · exact .inl (.inr ⟨rfl, h, h5⟩)
            · exact .inr (by rw [h])
      · rw [if_neg c] at z
        have hc : x < S[j] → S[j] ∉ A x → S[j] ∈ S.take j := by
          intro q1 q2
          have q3 : S[j] ∈ A' x := Classical.byContradiction fun q => c ⟨q1, q⟩
          rcases hA'.mp q3 with q | q
          · exact absurd q q2
          · exact q.1
        refine ⟨_, _, .inl z, A', C', some (.int S[j]), rfl, rfl, h1, ?_, ?_, by omega⟩
        · intro a b
          rw [h2, tk, tk]
          constructor
          · rintro (h | ⟨rfl, h, h5⟩ | ⟨rfl, h, h5⟩)
            · exact .inl h
            · exact .inr (.inl ⟨rfl, .inl h, h5⟩)
            · exact .inr (.inr ⟨rfl, .inl h, h5⟩)
          · rintro (h | ⟨rfl, h | h, h5⟩ | ⟨rfl, h | h, h5⟩)
            · exact .inl h
            · exact .inr (.inl ⟨rfl, h, h5⟩)
            · exact .inr (.inl ⟨rfl, by rw [h]; rw [h] at h5; exact hc h5.1 h5.2, h5⟩)
            · exact .inr (.inr ⟨rfl, h, h5⟩)
            · exact .inr (.inr ⟨rfl, by rw [h]; rw [h] at h5; exact hc h5.1 h5.2, h5⟩)
        · intro a b
          rw [h3, tk]
          constructor
          · rintro (h | ⟨rfl, h, h5⟩)
            · exact .inl h
            · exact .inr ⟨rfl, .inl h, h5⟩
          · rintro (h | ⟨rfl, h | h, h5⟩)
            · exact .inl h
            · exact .inr ⟨rfl, h, h5⟩
            · exact .inr ⟨rfl, by rw [h]; rw [h] at h5; exact hc h5.1 h5.2, h5⟩)
  rw [List.length_map, Nat.zero_add, List.take_length] at h2 h3
  rw [List.length_map, Nat.zero_add] at h4
  exact ⟨A', C', o', e1, h1, h2, h3, h4⟩
/-- one after the other -/
theorem l2_el {M0 : Mem} {p v : Nat} {A : Nat → List Nat} {S : List Nat} {g : Nat → Bool} {F : List (Nat × Nat)} (hp : p ≤ 9) (hS : ∀ y ∈ S, y < p ∧ g y = false) (nS : S.Nodup) (hv : v ∉ S) (hn : ∀ a, (A a).Nodup) (hA : ∀ a, ∀ b ∈ A a, b < p) (hvA : ∀ x ∈ S, v ∈ A x) :
    ∃ (A' : Nat → List Nat) (C' : List (Nat × Nat)) (one oth : Option D), forL none (fun d ρ => .ret (ρ.set 4 (some d))) l2_eliminated (S.map eN) (ER M0 p v S none none) (nM M0 p A (T3 M0 p g F [])) = some (.nx (ER M0 p v S one oth), nM M0 p A' (T3 M0 p g F C')) ∧
      (∀ a, (A' a).Nodup) ∧ (∀ a b, b ∈ A' a ↔ (b ∈ A a ∧ ¬ (b = v ∧ a ∈ S)) ∨ (a ∈ S ∧ b ∈ S ∧ a < b ∧ b ∉ A a) ∨ (b ∈ S ∧ a ∈ S ∧ b < a ∧ a ∉ A b)) ∧
      (∀ a b, (a, b) ∈ C' ↔ a ∈ S ∧ b ∈ S ∧ a < b ∧ b ∉ A a) ∧ C'.length ≤ S.length * S.length := by
  have hlS : S.length ≤ 9 := small_nd nS (fun a ha => (hS a ha).1) hp
  obtain ⟨ρ1, M1, e1, A', C', o1, o2, rfl, rfl, h1, h2, h3, h4⟩ := forL_ind (h := fun d ρ => .ret (ρ.set 4 (some d))) (body := l2_eliminated)
    (fun i ρ M => ∃ (A' : Nat → List Nat) (C' : List (Nat × Nat)) (o1 o2 : Option D), ρ = ER M0 p v S o1 o2 ∧ M = nM M0 p A' (T3 M0 p g F C') ∧
      (∀ a, (A' a).Nodup) ∧ (∀ a b, b ∈ A' a ↔ (b ∈ A a ∧ ¬ (b = v ∧ a ∈ S.take i)) ∨ (a ∈ S.take i ∧ b ∈ S ∧ a < b ∧ b ∉ A a) ∨ (b ∈ S.take i ∧ a ∈ S ∧ b < a ∧ a ∉ A b)) ∧
      (∀ a b, (a, b) ∈ C' ↔ a ∈ S.take i ∧ b ∈ S ∧ a < b ∧ b ∉ A a) ∧ C'.length ≤ i * S.length)
    (S.map eN) 0 (ER M0 p v S none none) (nM M0 p A (T3 M0 p g F [])) ⟨A, [], none, none, rfl, rfl, hn, by simp, by simp, by simp⟩ (by
      rintro j dd ρ M hj ⟨A', C', o1, o2, rfl, rfl, h1, h2, h3, h4⟩
      rw [Nat.zero_add] at *
      obtain ⟨hj', hd⟩ := List.getElem?_eq_some_iff.mp hj
      rw [List.length_map] at hj'
      rw [List.getElem_map] at hd
      subst hd
      obtain ⟨x, ex⟩ : ∃ x, S[j] = x := ⟨_, rfl⟩
      have hxS : x ∈ S := ex ▸ List.getElem_mem hj'
      have hx := hS x hxS
      have hxt : x ∉ S.take j := by
        intro q
        obtain ⟨i, hi, e⟩ := List.mem_take_iff_getElem.mp q
        have := List.pairwise_iff_getElem.mp nS i j (by omega) hj' (by omega)
        exact this (e.trans ex.symm)
      rw [ex]
      have tk : ∀ b, b ∈ S.take (j + 1) ↔ b ∈ S.take j ∨ b = x := by
        intro b
        rw [List.take_succ_eq_append_getElem hj', List.mem_append, List.mem_singleton, ex]
      have hvx : v ∈ A' x := (h2 x v).mpr (.inl ⟨hvA x hxS, fun q => hxt q.2⟩)
      have hb : ∀ a, ∀ b ∈ A' a, b < p := by
        intro a b h
        rcases (h2 a b).mp h with h | ⟨_, h, _⟩ | ⟨h, _⟩
        · exact hA a b h.1
        · exact (hS b h).1
        · exact (hS b (List.mem_of_mem_take h)).1
      have hpop := pop_near (M0 := M0) (T := T3 M0 p g F C') hx.1 hvx
      obtain ⟨A1, eA1⟩ : ∃ A1, upd A' x ((A' x).filter fun a => decide (a ≠ v)) = A1 := ⟨_, rfl⟩
      rw [eA1] at hpop
      have hm1 : ∀ a b, b ∈ A1 a ↔ b ∈ A' a ∧ ¬ (a = x ∧ b = v) := by
        intro a b
        rw [← eA1]
        by_cases c : a = x
        · subst c
          rw [upd_at, List.mem_filter, decide_eq_true_eq]
          simp
        · rw [upd_ne c]
          simp [c]
      have hn1 : ∀ a, (A1 a).Nodup := by
        intro a
        rw [← eA1]
        by_cases c : a = x
        · subst c
          rw [upd_at]
          exact (h1 a).sublist List.filter_sublist
        · rw [upd_ne c]; exact h1 a
      have hC' : C'.length + S.length ≤ 1000 := by
        have : j * S.length ≤ 9 * 9 := Nat.mul_le_mul (by omega) hlS
        omega
      obtain ⟨A2, C2, o3, e2, k1, k2, k3, k4⟩ := in_for (M0 := M0) (v := v) (F := F) (oth := o2) hp hx.1 hx.2 hS hn1 (fun a b h => hb a b ((hm1 a b).mp h).1) hC'
      have hxb : ∀ b ∈ S, x < b → (b ∈ A1 x ↔ b ∈ A x) := by
        intro b hbS hlt
        rw [hm1, h2]
        constructor
        · rintro ⟨h | ⟨h, _⟩ | ⟨_, _, h, _⟩, _⟩
          · exact h.1
          · exact absurd h hxt
          · omega
        · intro h
          refine ⟨.inl ⟨h, fun q => hxt q.2⟩, fun q => hv ?_⟩
          rw [← q.2]; exact hbS
      have body : l2_eliminated (ER M0 p v S (some (.int x)) o2) (nM M0 p A' (T3 M0 p g F C')) = some (.nx (ER M0 p v S (some (.int x)) o3), nM M0 p A2 (T3 M0 p g F C2)) := by
        have es : subD' (.ref (M0.length + p)) (.int x) (nM M0 p A' (T3 M0 p g F C')) = some (.ok (.ref (M0.length + x)), nM M0 p A' (T3 M0 p g F C')) := sub_near hx.1 hx.2
        unfold l2_eliminated
        refine (run_seq (ρ1 := ER M0 p v S (some (.int x)) o2) (M1 := nM M0 p A1 (T3 M0 p g F C')) ?_).trans ?_
        · unfold ER
          simp -implicitDefEqProofs [sE, Mo.bnd, Mo.ret, es]
          unfold chkM at hpop ⊢
          simp -implicitDefEqProofs [Mo.bnd, Mo.ret, hpop]
        · unfold ER at e2 ⊢
          simp -implicitDefEqProofs
          exact e2
      refine ⟨ER M0 p v S (some (.int x)) o2, nM M0 p A' (T3 M0 p g F C'), rfl, _, _, .inl body, A2, C2, _, _, rfl, rfl, k1, ?_, ?_, ?_⟩
      · intro a b
        rw [k2, hm1, h2, tk, tk]
        constructor
        · rintro (⟨(⟨h, h5⟩ | ⟨h, h5⟩ | ⟨h, h5⟩), h6⟩ | ⟨rfl, h, h5, h6⟩ | ⟨rfl, h, h5, h6⟩)
          · refine .inl ⟨h, fun q => ?_⟩
            rcases q.2 with q2 | q2
            · exact h5 ⟨q.1, q2⟩
            · exact h6 ⟨q2, q.1⟩
          · exact .inr (.inl ⟨.inl h, h5⟩)
          · exact .inr (.inr ⟨.inl h, h5⟩)
          · exact .inr (.inl ⟨.inr rfl, h, h5, fun q => h6 ((hxb b h h5).mpr q)⟩)
          · exact .inr (.inr ⟨.inr rfl, h, h5, fun q => h6 ((hxb a h h5).mpr q)⟩)
        · rintro (⟨h, h5⟩ | ⟨h | rfl, h5, h6, h7⟩ | ⟨h | rfl, h5, h6, h7⟩)
          · exact .inl ⟨.inl ⟨h, fun q => h5 ⟨q.1, .inl q.2⟩⟩, fun q => h5 ⟨q.2, .inr q.1⟩⟩
          · refine .inl ⟨.inr (.inl ⟨h, h5, h6, h7⟩), fun q => hv ?_⟩
            rw [← q.2]; exact h5
          · exact .inr (.inl ⟨rfl, h5, h6, fun q => h7 ((hxb b h5 h6).mp q)⟩)
          · refine .inl ⟨.inr (.inr ⟨h, h5, h6, h7⟩), fun q => hv ?_⟩
            rw [← q.2]; exact List.mem_of_mem_take h
          · exact .inr (.inr ⟨rfl, h5, h6, fun q => h7 ((hxb a h5 h6).mp q)⟩)
      · intro a b
        rw [k3, h3, tk]
        constructor
        · rintro (⟨h, h5⟩ | ⟨rfl, h, h5, h6⟩)
          · exact ⟨.inl h, h5⟩
          · exact ⟨.inr rfl, h, h5, fun q => h6 ((hxb b h h5).mpr q)⟩
        · rintro ⟨h | rfl, h5, h6, h7⟩
          · exact .inl ⟨h, h5, h6, h7⟩
          · exact .inr ⟨rfl, h5, h6, fun q => h7 ((hxb b h5 h6).mp q)⟩
      · rw [Nat.succ_mul]; omega)
  rw [List.length_map, Nat.zero_add, List.take_length] at h2 h3
  rw [List.length_map, Nat.zero_add] at h4
  exact ⟨A', C', o1, o2, e1, h1, h2, h3, h4⟩
def oldD (n : Nat) (d : D) : Prop := noref d = true ∨ ∃ k, k < n ∧ d = .ref k
theorem subst_old {M : Mem} {n j : Nat} {d : D} (h : oldD n d) : subst (frF M n j) d = some d := by
  rcases h with h | ⟨k, h, rfl⟩
  · exact subst_noref h
  · show frF M n j k = _
    cases j with
    | zero => exact if_pos h
    | succ j => exact if_pos h
theorem substL_old {M : Mem} {n j : Nat} : ∀ {l : List D}, (∀ d ∈ l, oldD n d) → substL (frF M n j) l = some l
  | [], _ => rfl
  | a :: l, h => by
    rw [substL, subst_old (h a List.mem_cons_self), substL_old fun b hb => h b (List.mem_cons_of_mem _ hb)]
theorem finM_old {M1 M T : Mem} (ht : M.take M1.length = T) (h : ∀ o ∈ T, norefO o = true ∨ ∃ l, o = .lst l ∧ ∀ d ∈ l, oldD M1.length d) : finM M1 M = some T := by
  unfold finM
  by_cases e : M.take M1.length = M1
  · rw [if_pos e, ← e, ht]
  · rw [if_neg e, ht]
    refine mapM_id fun o ho => ?_
    rcases h o ho with h | ⟨l, rfl, h⟩
    · exact frO_noref h
    · rw [frO, substL_old h]; rfl
theorem nM_old {M0 : Mem} {p n : Nat} {A : Nat → List Nat} {T : Mem} (h0 : NR M0) (hT : ∀ o ∈ T, norefO o = true ∨ ∃ l, o = .lst l ∧ ∀ d ∈ l, oldD n d) : ∀ o ∈ nM M0 p A T, norefO o = true ∨ ∃ l, o = .lst l ∧ ∀ d ∈ l, oldD n d := by
  intro o ho
  unfold nM at ho
  rcases List.mem_append.mp ho with ho | ho
  · rcases List.mem_append.mp ho with ho | ho
    · exact .inl (h0 o ho)
    · unfold objs at ho
      obtain ⟨i, _, rfl⟩ := List.mem_map.mp ho
      exact .inl (norefK_dK _)
  · exact hT o ho
theorem nI_old {M0 : Mem} {p n : Nat} {g : Nat → Bool} (h : M0.length + p ≤ n) : ∀ d ∈ nI M0 p g, oldD n d := by
  intro d hd
  unfold nI at hd
  obtain ⟨i, hi, rfl⟩ := List.mem_map.mp hd
  rw [List.mem_range] at hi
  cases g i with
  | true => exact .inl rfl
  | false => exact .inr ⟨M0.length + i, by omega, rfl⟩
theorem nI_set {M0 : Mem} {p v : Nat} {g : Nat → Bool} : (nI M0 p g).set v (.dct false []) = nI M0 p fun i => decide (i = v) || g i := by
  unfold nI
  apply List.ext_getElem?
  intro j
  by_cases hj : j < p
  · by_cases e : v = j
    · subst e
      rw [List.getElem?_set_self (by simpa using hj), List.getElem?_map, List.getElem?_range hj]
      simp
    · rw [List.getElem?_set_ne e, List.getElem?_map, List.getElem?_map, List.getElem?_range hj]
      simp [Ne.symm e]
  · rw [List.getElem?_eq_none (by simp; omega), List.getElem?_eq_none (by simp; omega)]
/-- a point goes -/
theorem eliminated_run {M0 : Mem} {p v : Nat} {A : Nat → List Nat} {g : Nat → Bool} {F : List (Nat × Nat)} (h0 : NR M0) (hp : p ≤ 9) (hv : v < p) (gv : g v = false) (hS : ∀ y ∈ A v, y < p ∧ g y = false) (hvv : v ∉ A v) (hn : ∀ a, (A a).Nodup) (hA : ∀ a, ∀ b ∈ A a, b < p)
    (hvA : ∀ x ∈ A v, v ∈ A x) (sy : ∀ a b, a ∈ A v → b ∈ A v → (b ∈ A a ↔ a ∈ A b)) :
    ∃ (A' : Nat → List Nat) (C : List (Nat × Nat)), m_eliminated [.ref (M0.length + p), .int v] (nM M0 p A [.lst (nI M0 p g), .lst (F.map eP)]) =
        some (.ok (.lst (C.map eP)), nM M0 p A' [.lst (nI M0 p fun i => decide (i = v) || g i), .lst (F.map eP)]) ∧
      (∀ a, (A' a).Nodup) ∧ (∀ a b, b ∈ A' a ↔ (b ∈ A a ∧ ¬ (b = v ∧ a ∈ A v)) ∨ (a ∈ A v ∧ b ∈ A v ∧ a ≠ b)) ∧
      (∀ a b, (a, b) ∈ C ↔ a ∈ A v ∧ b ∈ A v ∧ a < b ∧ b ∉ A a) ∧ C.length ≤ 100 := by
  have hm : ∀ x, x ∈ sortN (A v) ↔ x ∈ A v := fun x => sortN_mem
  have nS : (sortN (A v)).Nodup := (sortN_lt (hn v)).imp fun h => Nat.ne_of_lt h
  obtain ⟨A', C, o1, o2, e1, h1, h2, h3, h4⟩ := l2_el (M0 := M0) (v := v) (A := A) (S := sortN (A v)) (g := g) (F := F) hp (fun y hy => hS y ((hm y).mp hy)) nS (fun q => hvv ((hm v).mp q)) hn hA (fun x hx => hvA x ((hm x).mp hx))
  have hlS : (sortN (A v)).length ≤ 9 := small_nd nS (fun a ha => (hS a ((hm a).mp ha)).1) hp
  refine ⟨A', C, ?_, h1, ?_, ?_, ?_⟩
  · have hg : g_eliminated (startE N_eliminated [.ref (M0.length + p), .int v]) (nM M0 p A [.lst (nI M0 p g), .lst (F.map eP)]) =
        some (.ret (.ref (M0.length + p + 2)), nM M0 p A' (T3 M0 p (fun i => decide (i = v) || g i) F C)) := by
      unfold g_eliminated N_eliminated
      have es : subD' (.ref (M0.length + p)) (.int v) (nM M0 p A [.lst (nI M0 p g), .lst (F.map eP)]) = some (.ok (.ref (M0.length + v)), nM M0 p A [.lst (nI M0 p g), .lst (F.map eP)]) := sub_near hv gv
      have so : sortedD false (.ref (M0.length + v)) (nM M0 p A [.lst (nI M0 p g), .lst (F.map eP)]) = some (.ok (.lst ((sortN (A v)).map eN)), nM M0 p A [.lst (nI M0 p g), .lst (F.map eP)]) := by
        refine sortedD_eN ?_
        unfold seqK
        have : res (nM M0 p A [.lst (nI M0 p g), .lst (F.map eP)]) (.ref (M0.length + v)) = .dct false (dK (A v)) := res_ref (nM_get hv)
        rw [this]
        exact congrArg some (dK_keys _)
      refine (run_seq (ρ1 := [some (.ref (M0.length + p)), some (.int v), some (.lst ((sortN (A v)).map eN)), none, none, none]) (M1 := nM M0 p A [.lst (nI M0 p g), .lst (F.map eP)]) ?_).trans ?_
      · simp -implicitDefEqProofs [startE, sE, Mo.bnd, Mo.ret, es, so]
      refine (run_seq (ρ1 := ER M0 p v (sortN (A v)) none none) (M1 := nM M0 p A (T3 M0 p g F [])) ?_).trans ?_
      · have e : nM M0 p A [.lst (nI M0 p g), .lst (F.map eP)] ++ [.lst []] = nM M0 p A (T3 M0 p g F []) := by
          unfold nM T3; simp
        have e2 : newL [] (nM M0 p A [.lst (nI M0 p g), .lst (F.map eP)]) = some (.ok (.ref (M0.length + p + 2)), nM M0 p A (T3 M0 p g F [])) := by
          unfold newL
          rw [e, nM_len]
          rfl
        unfold ER
        simp -implicitDefEqProofs [sE, Mo.bnd, Mo.ret, e2]
      refine (run_seq (ρ1 := ER M0 p v (sortN (A v)) o1 o2) (M1 := nM M0 p A' (T3 M0 p g F C)) ?_).trans ?_
      · unfold ER at e1 ⊢
        simp -implicitDefEqProofs
        exact e1
      refine (run_seq (ρ1 := ER M0 p v (sortN (A v)) o1 o2) (M1 := nM M0 p A' (T3 M0 p (fun i => decide (i = v) || g i) F C)) ?_).trans ?_
      · have st := store_lst (ρ := ER M0 p v (sortN (A v)) o1 o2) (v := .dct false []) (nM_t (M0 := M0) (p := p) (A := A') (T := T3 M0 p g F C) (i := 0)) (r := v) (by rw [nI_len]; exact hv)
        rw [nM_tset, nI_set] at st
        have st' : storeM (.ref (M0.length + p)) (.int v) (.dct false []) (ER M0 p v (sortN (A v)) o1 o2) (nM M0 p A' (T3 M0 p g F C)) = some (.ok (ER M0 p v (sortN (A v)) o1 o2), nM M0 p A' (T3 M0 p (fun i => decide (i = v) || g i) F C)) := st
        unfold ER at st' ⊢
        simp -implicitDefEqProofs [sE, Mo.bnd, Mo.ret, s0, st']
      · unfold ER
        simp -implicitDefEqProofs
    unfold m_eliminated fnD
    rw [hg]
    show fin _ _ _ = _
    have hlen : (nM M0 p A [.lst (nI M0 p g), .lst (F.map eP)]).length = M0.length + p + 2 := nM_len
    unfold fin
    have f1 : subst (frF (nM M0 p A' (T3 M0 p (fun i => decide (i = v) || g i) F C)) (nM M0 p A [.lst (nI M0 p g), .lst (F.map eP)]).length 3) (.ref (M0.length + p + 2)) = some (.lst (C.map eP)) := by
      rw [hlen]
      show frF _ _ 3 (M0.length + p + 2) = _
      unfold frF
      have t2 : (nM M0 p A' (T3 M0 p (fun i => decide (i = v) || g i) F C))[M0.length + p + 2]? = some (.lst (C.map eP)) := nM_t (i := 2)
      rw [if_neg (by omega), t2]
      show (substL _ (C.map eP)).map D.lst = _
      rw [substL_noref (noref_eP C)]
      rfl
    have f2 : finM (nM M0 p A [.lst (nI M0 p g), .lst (F.map eP)]) (nM M0 p A' (T3 M0 p (fun i => decide (i = v) || g i) F C)) = some (nM M0 p A' [.lst (nI M0 p fun i => decide (i = v) || g i), .lst (F.map eP)]) := by
      refine finM_old ?_ (nM_old h0 ?_)
      · rw [hlen]
        have e : nM M0 p A' (T3 M0 p (fun i => decide (i = v) || g i) F C) = nM M0 p A' [.lst (nI M0 p fun i => decide (i = v) || g i), .lst (F.map eP)] ++ [.lst (C.map eP)] := by
          unfold nM T3; simp
        rw [e]
        have e2 : (nM M0 p A' [.lst (nI M0 p fun i => decide (i = v) || g i), .lst (F.map eP)]).length = M0.length + p + 2 := nM_len
        rw [← e2, List.take_left]
      · intro o ho
        simp only [List.mem_cons, List.not_mem_nil, or_false] at ho
        rcases ho with rfl | rfl
        · exact .inr ⟨_, rfl, nI_old (by rw [hlen]; omega)⟩
        · exact .inl (noref_eP F)
    rw [f1, f2]
  · intro a b
    rw [h2, hm, hm]
    constructor
    · rintro (h | ⟨h, h5, h6, _⟩ | ⟨h, h5, h6, _⟩)
      · exact .inl h
      · exact .inr ⟨h, h5, by omega⟩
      · exact .inr ⟨h5, h, by omega⟩
    · rintro (h | ⟨h, h5, h6⟩)
      · exact .inl h
      · by_cases c : b ∈ A a
        · refine .inl ⟨c, fun q => hvv ?_⟩
          have h7 := h5
          rw [q.1] at h7
          exact h7
        · by_cases c2 : a < b
          · exact .inr (.inl ⟨h, h5, c2, c⟩)
          · exact .inr (.inr ⟨h5, h, by omega, fun q => c ((sy a b h h5).mpr q)⟩)
  · intro a b
    rw [h3, hm, hm]
  · have : (sortN (A v)).length * (sortN (A v)).length ≤ 9 * 9 := Nat.mul_le_mul hlS hlS
    omega
end K67
namespace K67
open DL
variable {M0 : Mem} {p : Nat} {es : List (Nat × Nat)} {L : List Nat}
theorem check_run (o : Ord p L) (hp : p ≤ 9) : m_check_order [graD p es, ordD L] M0 = some (.ok .non, M0) := by
  have e := is_order_run o (by omega)
  have hg : g_check_order (startE N_check_order [graD p es, ordD L]) M0 = some (.nx (startE N_check_order [graD p es, ordD L]), M0) := by
    unfold g_check_order N_check_order graD
    simp -implicitDefEqProofs [startE, e]
  unfold m_check_order fnD
  rw [hg]
  exact fin_ok rfl (by simp)
theorem ext_run {M : Mem} {n : Nat} {l l2 : List D} (h : M[n]? = some (.lst l)) (hl : l.length + l2.length ≤ 1000000) : chkM isL (.ref n) (extD (.ref n) [.lst l2]) M = some (.ok .non, M.set n (.lst (l ++ l2))) := by
  unfold chkM
  rw [isL_ref h, cond_true]
  unfold extD
  have e : cur M (.ref n) = some (n, l) := by unfold cur; simp only [h]
  have e2 : decide (l.length + l2.length ≤ PySem.sizeLine) = true := by rw [PySem.sizeLine_eq]; simp; omega
  simp only [e, res, e2, cond_true]
def FR (M0 : Mem) (p : Nat) (es : List (Nat × Nat)) (L : List Nat) (pt : Option D) : En := [some (graD p es), some (ordD L), some (.ref (M0.length + p)), some (.ref (M0.length + p + 1)), pt]
def T2 (M0 : Mem) (p : Nat) (g : Nat → Bool) (F : List (Nat × Nat)) : Mem := [.lst (nI M0 p g), .lst (F.map eP)]
theorem fill_step {k v : Nat} {A : Nat → List Nat} {g : Nat → Bool} {F : List (Nat × Nat)} (h0 : NR M0) (hp : p ≤ 9) (ok : ∀ a ∈ es, a.1 < a.2 ∧ a.2 < p) (o : Ord p L) (hv : L[k]? = some v) (h : Es es L k A F) (hg : ∀ i ∈ L.drop k, g i = false) (hA : ∀ a, ∀ b ∈ A a, b < p) :
    ∃ (A' : Nat → List Nat) (F' : List (Nat × Nat)) (g' : Nat → Bool), l1_fill_of (FR M0 p es L (some (.int v))) (nM M0 p A (T2 M0 p g F)) = some (.nx (FR M0 p es L (some (.int v))), nM M0 p A' (T2 M0 p g' F')) ∧
      Es es L (k + 1) A' F' ∧ (∀ i ∈ L.drop (k + 1), g' i = false) ∧ ∀ a, ∀ b ∈ A' a, b < p := by
  have hvm : v ∈ L.drop k := (mem_drop_succ hv).mpr (.inl rfl)
  have hvp : v < p := o.lt v (List.mem_of_mem_drop hvm)
  have hkl : k < L.length := (List.getElem?_eq_some_iff.mp hv).1
  obtain ⟨A', C, e, k1, k2, k3, k4⟩ := eliminated_run (M0 := M0) (F := F) h0 hp hvp (hg v hvm) (fun y hy => ⟨hA v y hy, hg y ((h.mem v hvm y).mp hy).1⟩) (fun q => ((h.mem v hvm v).mp q).2.ne ok rfl) h.nd hA (fun x hx => by
    have := (h.mem v hvm x).mp hx
    exact (h.mem x this.1 v).mpr ⟨hvm, this.2.symm⟩) (h.sym hv)
  refine ⟨A', F ++ C, fun i => decide (i = v) || g i, ?_, h.step ok o.nd hv k1 k2 k3 k4, ?_, ?_⟩
  · have x := ext_run (nM_t (M0 := M0) (p := p) (A := A') (T := T2 M0 p (fun i => decide (i = v) || g i) F) (i := 1)) (l2 := C.map eP) (by
      have := h.fl
      have : k < 9 := by have := o.len; omega
      simp only [List.length_map]
      omega)
    rw [nM_tset] at x
    have x' : chkM isL (.ref (M0.length + p + 1)) (extD (.ref (M0.length + p + 1)) [.lst (C.map eP)]) (nM M0 p A' (T2 M0 p (fun i => decide (i = v) || g i) F)) = some (.ok .non, nM M0 p A' (T2 M0 p (fun i => decide (i = v) || g i) (F ++ C))) := by
      rw [x]
      simp [T2]
    have i1 : isL (nM M0 p A (T2 M0 p g F)) (.ref (M0.length + p + 1)) = true := isL_ref (nM_t (i := 1))
    have e' : m_eliminated [.ref (M0.length + p), .int v] (nM M0 p A (T2 M0 p g F)) = some (.ok (.lst (C.map eP)), nM M0 p A' (T2 M0 p (fun i => decide (i = v) || g i) F)) := e
    have i2 : isL (nM M0 p A' (T2 M0 p (fun i => decide (i = v) || g i) F)) (.ref (M0.length + p + 1)) = true := isL_ref (nM_t (i := 1))
    unfold chkM at x'
    rw [i2, cond_true] at x'
    unfold l1_fill_of FR
    simp -implicitDefEqProofs [sE, Mo.bnd, Mo.ret, chkM, i1, e', x']
  · intro i hi
    have h1 := hg i ((mem_drop_succ hv).mpr (.inr hi))
    have h2 : i ≠ v := fun q => not_drop o.nd hv (Nat.lt_succ_self k) (q ▸ hi)
    simp [h1, h2]
  · intro a b hb
    rcases (k2 a b).mp hb with h | ⟨_, h, _⟩
    · exact hA a b h.1
    · exact hA v b h
theorem fill_of_run (h0 : NR M0) (hp : p ≤ 9) (ok : ∀ a ∈ es, a.1 < a.2 ∧ a.2 < p) (o : Ord p L) :
    ∃ F : List (Nat × Nat), m_fill_of [graD p es, ordD L] M0 = some (.ok (.tup (F.map eP)), M0) ∧ (∀ a b, (a, b) ∈ F ↔ a < b ∧ FB es L p a b ∧ ¬ E es a b) ∧ F.length ≤ 1000 := by
  obtain ⟨A0, e0, n0, m0⟩ := neighbours_run (M0 := M0) hp ok
  obtain ⟨ρ1, M1, e1, A, F, g, pt, rfl, rfl, hE, hg, hA⟩ := forL_ind (h := fun d ρ => .ret (ρ.set 4 (some d))) (body := l1_fill_of)
    (fun k ρ M => ∃ (A : Nat → List Nat) (F : List (Nat × Nat)) (g : Nat → Bool) (pt : Option D), ρ = FR M0 p es L pt ∧ M = nM M0 p A (T2 M0 p g F) ∧ Es es L k A F ∧ (∀ i ∈ L.drop k, g i = false) ∧ ∀ a, ∀ b ∈ A a, b < p)
    (L.map eN) 0 (FR M0 p es L none) (nM M0 p A0 (T2 M0 p (fun _ => false) []))
    ⟨A0, [], fun _ => false, none, rfl, rfl, Es.init o.all ok n0 (fun x _ y => m0 x y) o.lt, fun _ _ => rfl, fun a b h => (FB.lt (k := 0) ok o.lt ((m0 a b).mp h)).2⟩ (by
      rintro j dd ρ M hj ⟨A, F, g, pt, rfl, rfl, hE, hg, hA⟩
      rw [Nat.zero_add] at *
      rw [List.getElem?_map] at hj
      cases hv : L[j]? with
      | none => rw [hv] at hj; cases hj
      | some v =>
        rw [hv] at hj
        cases hj
        obtain ⟨A', F', g', e, h1, h2, h3⟩ := fill_step h0 hp ok o hv hE hg hA
        exact ⟨FR M0 p es L (some (.int v)), _, rfl, _, _, .inl e, A', F', g', _, rfl, rfl, h1, h2, h3⟩)
  rw [List.length_map, Nat.zero_add, o.len] at hE
  refine ⟨sortP F, ?_, fun a b => by rw [sortP_mem]; exact hE.fm a b, by rw [(sortP_perm F).length_eq]; have := hE.fl; omega⟩
  have hg : g_fill_of (startE N_fill_of [graD p es, ordD L]) M0 = some (.ret (.tup ((sortP F).map eP)), nM M0 p A (T2 M0 p g F)) := by
    unfold g_fill_of N_fill_of
    have ec := check_run (M0 := M0) (es := es) o hp
    refine (run_seq (ρ1 := [some (graD p es), some (ordD L), none, none, none]) (M1 := M0) ?_).trans ?_
    · simp -implicitDefEqProofs [startE, sE, Mo.bnd, Mo.ret, ec]
    refine (run_seq (ρ1 := [some (graD p es), some (ordD L), some (.ref (M0.length + p)), none, none]) (M1 := nM M0 p A0 [.lst (nI M0 p fun _ => false)]) ?_).trans ?_
    · simp -implicitDefEqProofs [sE, Mo.bnd, Mo.ret, e0]
    refine (run_seq (ρ1 := FR M0 p es L none) (M1 := nM M0 p A0 (T2 M0 p (fun _ => false) [])) ?_).trans ?_
    · have e2 : newL [] (nM M0 p A0 [.lst (nI M0 p fun _ => false)]) = some (.ok (.ref (M0.length + p + 1)), nM M0 p A0 (T2 M0 p (fun _ => false) [])) := by
        unfold newL
        rw [nM_len]
        have : nM M0 p A0 [.lst (nI M0 p fun _ => false)] ++ [.lst []] = nM M0 p A0 (T2 M0 p (fun _ => false) []) := by
          unfold nM T2; simp
        rw [this]
        rfl
      unfold FR
      simp -implicitDefEqProofs [sE, Mo.bnd, Mo.ret, e2]
    refine (run_seq (ρ1 := FR M0 p es L pt) (M1 := nM M0 p A (T2 M0 p g F)) ?_).trans ?_
    · have it : itD (ordD L) = .ret ⟨L.map eN, none⟩ := rfl
      unfold FR at e1 ⊢
      simp -implicitDefEqProofs [it]
      exact e1
    · have so : sortedD false (.ref (M0.length + p + 1)) (nM M0 p A (T2 M0 p g F)) = some (.ok (.lst ((sortP F).map eP)), nM M0 p A (T2 M0 p g F)) := by
        refine sortedD_eP ?_
        unfold seqK
        have : res (nM M0 p A (T2 M0 p g F)) (.ref (M0.length + p + 1)) = .lst (F.map eP) := by
          unfold res
          simp only [nM_t (M0 := M0) (p := p) (A := A) (T := T2 M0 p g F) (i := 1)]
          rfl
        rw [this]
      unfold FR
      simp -implicitDefEqProofs [sE, Mo.bnd, Mo.ret, so]
  have em : nM M0 p A (T2 M0 p g F) = M0 ++ (objs p (fun i => nO (A i)) ++ T2 M0 p g F) := by
    unfold nM; rw [List.append_assoc]
  unfold m_fill_of
  refine fnD_new (em ▸ hg) ?_
  exact noref_tup (noref_eP _)
/-- the filled graph -/
theorem filled_run (h0 : NR M0) (hp : p ≤ 9) (ok : ∀ a ∈ es, a.1 < a.2 ∧ a.2 < p) (hl : es.length ≤ 1000) (o : Ord p L) :
    ∃ fs : List (Nat × Nat), m_filled [graD p es, ordD L] M0 = some (.ok (graD p fs), M0) ∧ (∀ a ∈ fs, a.1 < a.2 ∧ a.2 < p) ∧ ∀ x y, E fs x y ↔ FB es L p x y := by
  obtain ⟨F, e, hF, hl2⟩ := fill_of_run h0 hp ok o
  obtain ⟨k1, k2⟩ := filled_E ok o.lt (fs := sortP (es ++ F)) hF (fun a => by rw [sortP_mem, List.mem_append])
  refine ⟨sortP (es ++ F), fnD_at ?_ (noref_gra _ _), k1, k2⟩
  unfold g_filled N_filled
  have s1 : starD (.tup (F.map eP)) M0 = some (.ok (F.map eP), M0) := rfl
  have s2 : starD (.tup (es.map eP)) M0 = some (.ok (es.map eP), M0) := rfl
  have lo : lstD (es.map eP ++ F.map eP) = .ret (.lst (es.map eP ++ F.map eP)) := lst_ok (by rw [PySem.sizeLine_eq]; simp; omega)
  have so : sortedD false (.lst (es.map eP ++ F.map eP)) M0 = some (.ok (.lst ((sortP (es ++ F)).map eP)), M0) := by
    refine sortedD_eP ?_
    rw [List.map_append]
    rfl
  have t2 : tupD [.int p, .tup ((sortP (es ++ F)).map eP)] = .ret (graD p (sortP (es ++ F))) := tup_ok (by rw [PySem.sizeLine_eq]; simp)
  unfold graD at e t2 ⊢
  simp -implicitDefEqProofs [startE, sE, Mo.bnd, Mo.ret, s2, e, s1, lo, so, t2]
end K67
namespace K67
open DL
variable {M0 : Mem} {p : Nat} {es : List (Nat × Nat)} {L : List Nat}
/-- the place of a point -/
def pl (L : List Nat) (x : Nat) : Nat := (pos L x).getD 0
theorem pl_at (o : Ord p L) {i x : Nat} (h : L[i]? = some x) : pl L x = i := by
  unfold pl
  rw [(pos_iff o.nd).mpr h]; rfl
theorem pl_get (o : Ord p L) {x : Nat} (h : x < p) : L[pl L x]? = some x := by
  obtain ⟨i, hi, e⟩ := List.mem_iff_getElem.mp (o.all x h)
  have e2 : L[i]? = some x := by rw [List.getElem?_eq_getElem hi, e]
  rw [pl_at o e2]
  exact e2
theorem pl_lt (o : Ord p L) {x : Nat} (h : x < p) : pl L x < p := by
  have := (List.getElem?_eq_some_iff.mp (pl_get o h)).1
  rw [o.len] at this
  exact this
theorem drop_pl (o : Ord p L) {x j : Nat} (h : x < p) : x ∈ L.drop j ↔ j ≤ pl L x := by
  have hg := pl_get o h
  constructor
  · intro hx
    exact Classical.byContradiction fun c => not_drop o.nd hg (by omega) hx
  · intro hj
    obtain ⟨h1, h2⟩ := List.getElem?_eq_some_iff.mp hg
    rw [List.mem_iff_getElem]
    refine ⟨pl L x - j, by rw [List.length_drop]; omega, ?_⟩
    rw [List.getElem_drop]
    simp only [show j + (pl L x - j) = pl L x by omega]
    exact h2
theorem pl_pw (o : Ord p L) : L.Pairwise fun a b => pl L a < pl L b := by
  rw [List.pairwise_iff_getElem]
  intro i j hi hj hij
  rw [pl_at o (List.getElem?_eq_getElem hi), pl_at o (List.getElem?_eq_getElem hj)]
  exact hij
theorem inv_at (o : Ord p L) {x : Nat} (h : x < p) : (inv p L)[x]? = some (pl L x) := by
  rw [inv_get o]
  exact pl_get o h
/-- later points -/
noncomputable def latv (es : List (Nat × Nat)) (L : List Nat) (x : Nat) : List Nat := lat es L (pl L x) x
theorem latv_pw (o : Ord p L) (x : Nat) : (latv es L x).Pairwise fun a b => pl L a < pl L b := by
  unfold latv lat
  exact ((pl_pw o).sublist (List.drop_sublist _ _)).sublist List.filter_sublist
theorem latv_mem (ok : ∀ a ∈ es, a.1 < a.2 ∧ a.2 < p) (o : Ord p L) {x y : Nat} (hx : x < p) : y ∈ latv es L x ↔ FB es L p x y ∧ pl L x < pl L y := by
  unfold latv
  rw [lat_mem]
  have hk := pl_lt o hx
  constructor
  · rintro ⟨h1, h2⟩
    have hy := (h2.lt ok o.lt).2
    exact ⟨h2.mono (Nat.le_of_lt hk), by have := (drop_pl o hy).mp h1; omega⟩
  · rintro ⟨h1, h2⟩
    have hy := (h1.lt ok o.lt).2
    exact ⟨(drop_pl o hy).mpr h2, FB.stay o.nd (pl_get o hx) (Nat.le_of_lt hk) h1⟩
theorem latv_len (ok : ∀ a ∈ es, a.1 < a.2 ∧ a.2 < p) (o : Ord p L) {x : Nat} (hx : x < p) : (latv es L x).length < p ∧ ∀ y ∈ latv es L x, y < p := by
  have h2 : ∀ y ∈ latv es L x, y < p := fun y hy => (((latv_mem ok o hx).mp hy).1.lt ok o.lt).2
  refine ⟨?_, h2⟩
  unfold latv lat
  have h := List.length_filter_le (fun y => @decide (FB es L (pl L x) x y) (Classical.propDecidable _)) (L.drop (pl L x + 1))
  rw [List.length_drop, o.len] at h
  have := pl_lt o hx
  exact Nat.lt_of_le_of_lt h (by omega)
theorem sortI_pl (o : Ord p L) {l : List Nat} (h : ∀ a ∈ l, a < p) : sortI ((inv p L).map fun n : Nat => (n : Int)) (l.map fun n : Nat => (n : Int)) = (l.mergeSort fun a b => decide (pl L a ≤ pl L b)).map fun n : Nat => (n : Int) := by
  unfold sortI
  symm
  apply List.map_mergeSort
  intro a ha b hb
  have key : ∀ x, x ∈ l → keyI ((inv p L).map fun n : Nat => (n : Int)) (x : Int) = .int (pl L x : Nat) := by
    intro x hx
    unfold keyI
    congr 1
    rw [List.getD_eq_getElem?_getD]
    have : ((x : Int).toNat) = x := by omega
    rw [this, List.getElem?_map, inv_at o (h x hx)]
    rfl
  unfold PySem.W.dataLe PySem.W.sortLe
  simp only [cond_false]
  show _ = !PyProof.Rows.lexLt PyProof.Rows.itemOrd (PySem.W.keyToks (keyI _ (b : Int))) (PySem.W.keyToks (keyI _ (a : Int)))
  rw [key a ha, key b hb, dataLt_int']
  rw [Bool.eq_iff_iff]; simp
theorem sorted_pl (o : Ord p L) {l : List Nat} (nd : l.Nodup) (h : ∀ a ∈ l, a < p) : (l.mergeSort fun a b => decide (pl L a ≤ pl L b)).Pairwise fun a b => pl L a < pl L b := by
  have z := List.pairwise_mergeSort (le := fun a b : Nat => decide (pl L a ≤ pl L b)) (by intro a b c h1 h2; simp at h1 h2 ⊢; omega) (by intro a b; simp; omega) l
  have pm := List.mergeSort_perm l (fun a b => decide (pl L a ≤ pl L b))
  have n : (l.mergeSort fun a b => decide (pl L a ≤ pl L b)).Nodup := pm.nodup_iff.mpr nd
  have z2 := z.and n
  refine List.Pairwise.imp_of_mem (fun {a b} ha hb hh => ?_) z2
  obtain ⟨h1, h2⟩ := hh
  simp at h1
  have ha' := h a (pm.mem_iff.mp ha)
  have hb' := h b (pm.mem_iff.mp hb)
  have : pl L a ≠ pl L b := fun e => h2 (by
    have e1 := pl_get o ha'
    rw [e, pl_get o hb'] at e1
    exact (Option.some.inj e1).symm)
  omega
/-- what later_of makes of a point's neighbours -/
theorem late_eq (ok : ∀ a ∈ es, a.1 < a.2 ∧ a.2 < p) (o : Ord p L) {x : Nat} {l : List Nat} (hx : x < p) (nd : l.Nodup) (hm : ∀ y, y ∈ l ↔ FB es L p x y) :
    ((l.filter fun y => decide (pl L x < pl L y)).mergeSort fun a b => decide (pl L a ≤ pl L b)) = latv es L x := by
  refine eq_of_pw (lt := fun a b => pl L a < pl L b) (fun a => Nat.lt_irrefl _) (fun a b c => Nat.lt_trans) (sorted_pl o (nd.sublist List.filter_sublist) fun a ha => ?_) (latv_pw o x) fun a => ?_
  · exact (((hm a).mp (List.mem_filter.mp ha).1).lt ok o.lt).2
  · rw [(List.mergeSort_perm _ _).mem_iff, List.mem_filter, decide_eq_true_eq, hm, latv_mem ok o hx]
theorem toI_nat (l : List Nat) : (l.map eN).mapM toI = some (l.map fun n : Nat => (n : Int)) := toI_map l
theorem sortLD_run (o : Ord p L) {l : List Nat} (h : ∀ a ∈ l, a < p) : sortLD false (ordD (inv p L)) (.lst (l.map eN)) = .ret (.lst ((l.mergeSort fun a b => decide (pl L a ≤ pl L b)).map eN)) := by
  funext M
  unfold sortLD
  have e1 : intsT (ordD (inv p L)) = some ((inv p L).map fun n : Nat => (n : Int)) := toI_nat _
  have e2 : intsL M (.lst (l.map eN)) = some (l.map fun n : Nat => (n : Int)) := toI_nat _
  simp only [e1, e2]
  have e3 : ((l.map fun n : Nat => (n : Int)).all fun n => decide (0 ≤ n) && decide (n.toNat < ((inv p L).map fun n : Nat => (n : Int)).length)) = true := by
    rw [List.all_eq_true]
    intro n hn
    obtain ⟨a, ha, rfl⟩ := List.mem_map.mp hn
    have := h a ha
    have hl : (inv p L).length = p := o.inv.len
    simp [hl]
    omega
  rw [e3, cond_true, sortI_pl o h, List.map_map]
  rfl
def LR (p : Nat) (es : List (Nat × Nat)) (L : List Nat) (M0 : Mem) (A : Nat → List Nat) (pt lt : Option D) : En := [some (graD p es), some (ordD L), none, some (ordD (inv p L)), some (nearD p A), some (.ref M0.length), pt, lt]
theorem sub_nearD {A : Nat → List Nat} {x : Nat} (h : x < p) : subD' (nearD p A) (.int x) = .ret (.dct false (dK (A x))) := by
  refine sub_lst (atD_nat ?_)
  rw [List.getElem?_map, List.getElem?_range h]
  rfl
theorem sub_inv (o : Ord p L) {x : Nat} (h : x < p) : subD' (ordD (inv p L)) (.int x) = .ret (.int (pl L x : Nat)) := by
  refine sub_tup (atD_nat ?_)
  rw [List.getElem?_map, inv_at o h]
  rfl
theorem later_step (hp : p ≤ 9) (ok : ∀ a ∈ es, a.1 < a.2 ∧ a.2 < p) (o : Ord p L) {x : Nat} (hx : x < p) {A : Nat → List Nat} (nd : (A x).Nodup) (hm : ∀ y, y ∈ A x ↔ FB es L p x y) {lt : Option D} {fo : List D} (hfo : fo.length ≤ 100) :
    l1_later_of (LR p es L M0 A (some (.int x)) lt) (M0 ++ [.lst fo]) = some (.nx (LR p es L M0 A (some (.int x)) (some (.lst (((A x).filter fun y => decide (pl L x < pl L y)).map eN)))), M0 ++ [.lst (fo ++ [ordD (latv es L x)])]) := by
  have hA : ∀ y ∈ A x, y < p := fun y hy => (((hm y).mp hy).lt ok o.lt).2
  have hlen : (A x).length ≤ 9 := small_nd nd hA hp
  have it : itD (.dct false (dK (A x))) = .ret ⟨(A x).map eN, none⟩ := by
    show Mo.ret (⟨(dK (A x)).map (·.1), none⟩ : Itd') = _
    rw [dK_keys]
  have hsl : ((A x).filter fun y => decide (pl L x < pl L y)).length ≤ 9 := Nat.le_trans (List.length_filter_le _ _) hlen
  have so := sortLD_run o (l := (A x).filter fun y => decide (pl L x < pl L y)) (fun a ha => hA a (List.mem_filter.mp ha).1)
  rw [late_eq ok o hx nd hm] at so
  have ap := append_run (M := M0 ++ [.lst fo]) (d := ordD (latv es L x)) last_at (by rw [PySem.sizeLine_eq]; omega)
  rw [last_set] at ap
  have iL : isL (M0 ++ [.lst fo]) (.ref M0.length) = true := isL_ref last_at
  unfold l1_later_of
  refine (run_seq (ρ1 := LR p es L M0 A (some (.int x)) (some (.lst (((A x).filter fun y => decide (pl L x < pl L y)).map eN)))) (M1 := M0 ++ [.lst fo]) ?_).trans ?_
  · unfold LR
    simp -implicitDefEqProofs [sub_nearD hx, it]
    rw [comp_if (p := fun y => decide (pl L x < pl L y)) (f := eN)]
    · rw [cmp_lst (by simp; omega)]
      simp -implicitDefEqProofs
    · intro y hy
      have hy' := hA y hy
      have s1 := sub_inv o hy'
      have s2 := sub_inv o hx
      have hd : decide ((pl L x : Int) < (pl L y : Nat)) = decide (pl L x < pl L y) := by
        rw [Bool.eq_iff_iff]; simp
      unfold eN
      simp -implicitDefEqProofs [turn1, wipeR, s1, s2, hd, one']
      cases decide (pl L x < pl L y) <;> rfl
  · have tl : tupleD (.lst ((latv es L x).map eN)) = .ret (ordD (latv es L x)) := tupleD_lst _
    unfold LR
    simp -implicitDefEqProofs [so, sE, Mo.bnd, Mo.ret, chkM, iL, ap, tl]
theorem later_of_run (h0 : NR M0) (hp : p ≤ 9) (ok : ∀ a ∈ es, a.1 < a.2 ∧ a.2 < p) (hl : es.length ≤ 1000) (o : Ord p L) :
    m_later_of [graD p es, ordD L] M0 = some (.ok (.tup ((List.range p).map fun x => ordD (latv es L x))), M0) := by
  obtain ⟨fs, e1, h1, h2⟩ := filled_run h0 hp ok hl o
  obtain ⟨A, e2, h3, h4⟩ := neighbours_c_run (M0 := M0) hp h1
  obtain ⟨ρ1, M1, e3, pt, lt, rfl, rfl⟩ := forL_ind (h := fun d ρ => .ret (ρ.set 6 (some d))) (body := l1_later_of)
    (fun i ρ M => ∃ (pt lt : Option D), ρ = LR p es L M0 A pt lt ∧ M = M0 ++ [.lst ((List.range i).map fun x => ordD (latv es L x))])
    ((List.range p).map fun k => .int (k : Nat)) 0 (LR p es L M0 A none none) (M0 ++ [.lst []]) ⟨none, none, rfl, rfl⟩ (by
      rintro i dd ρ M hj ⟨pt, lt, rfl, rfl⟩
      rw [Nat.zero_add] at *
      obtain ⟨hj', hd⟩ := List.getElem?_eq_some_iff.mp hj
      simp only [List.length_map, List.length_range] at hj'
      rw [List.getElem_map, List.getElem_range] at hd
      subst hd
      have z := later_step (M0 := M0) hp ok o hj' (A := A) (h3 i) (fun y => (h4 i y).trans (h2 i y)) (lt := lt) (fo := (List.range i).map fun x => ordD (latv es L x)) (by simp; omega)
      refine ⟨LR p es L M0 A (some (.int i)) lt, _, rfl, _, _, .inl z, _, _, rfl, ?_⟩
      rw [List.range_succ, List.map_append]
      rfl)
  simp only [List.length_map, List.length_range, Nat.zero_add] at e3
  have hnr : noref (.tup ((List.range p).map fun x => ordD (latv es L x))) = true := noref_tup (noref_map (fun x => noref_ord _) _)
  unfold m_later_of
  refine fnD_new (M' := [.lst ((List.range p).map fun x => ordD (latv es L x))]) ?_ hnr
  unfold g_later_of N_later_of
  have tu := turned_run o hp
  refine (run_seq (ρ1 := [some (graD p es), some (ordD L), none, some (ordD (inv p L)), none, none, none, none]) (M1 := M0) ?_).trans ?_
  · simp -implicitDefEqProofs [startE, sE, Mo.bnd, Mo.ret, tu]
  refine (run_seq (ρ1 := [some (graD p es), some (ordD L), none, some (ordD (inv p L)), some (nearD p A), none, none, none]) (M1 := M0) ?_).trans ?_
  · simp -implicitDefEqProofs [sE, Mo.bnd, Mo.ret, e1, e2]
  refine (run_seq (ρ1 := LR p es L M0 A none none) (M1 := M0 ++ [.lst []]) ?_).trans ?_
  · have e5 : newL [] M0 = some (.ok (.ref M0.length), M0 ++ [.lst []]) := rfl
    unfold LR
    simp -implicitDefEqProofs [sE, Mo.bnd, Mo.ret, e5]
  refine (run_seq (ρ1 := LR p es L M0 A pt lt) (M1 := M0 ++ [.lst ((List.range p).map fun x => ordD (latv es L x))]) ?_).trans ?_
  · have rn := rngD1_nat (n := p) (by omega)
    unfold LR graD at e3 ⊢
    simp only [for_app]
    simp -implicitDefEqProofs [rn]
    exact e3
  · have tl : tupleD (.ref M0.length) (M0 ++ [.lst ((List.range p).map fun x => ordD (latv es L x))]) = some (.ok (.tup ((List.range p).map fun x => ordD (latv es L x))), M0 ++ [.lst ((List.range p).map fun x => ordD (latv es L x))]) := by
      simp [tupleD, seqB, res]
    unfold LR
    simp -implicitDefEqProofs [sE, Mo.bnd, Mo.ret, tl]
end K67
namespace K67
open DL
variable {M0 : Mem} {p : Nat} {es : List (Nat × Nat)} {L : List Nat}
def lL (l : List Nat) : D := .lst (l.map eN)
def oM (M0 : Mem) (p : Nat) (f : Nat → List Nat) (T : Mem) : Mem := M0 ++ objs p (fun i => .lst ((f i).map eN)) ++ T
section
variable {f : Nat → List Nat} {T : Mem}
theorem oM_len : (oM M0 p f T).length = M0.length + p + T.length := by
  unfold oM; rw [List.length_append, List.length_append, objs_len]
theorem oM_get {q : Nat} (h : q < p) : (oM M0 p f T)[M0.length + q]? = some (.lst ((f q).map eN)) := by
  unfold oM
  rw [List.getElem?_append_left (by rw [List.length_append, objs_len]; omega), objs_get h]
theorem oM_set {q : Nat} {l : List Nat} (h : q < p) : (oM M0 p f T).set (M0.length + q) (.lst (l.map eN)) = oM M0 p (upd f q l) T := by
  unfold oM
  rw [List.set_append_left _ _ (by rw [List.length_append, objs_len]; omega), objs_set]
  congr 2
  apply objs_congr
  intro r _
  unfold upd
  by_cases e : r = q
  · rw [if_pos e, if_pos e]
  · rw [if_neg e, if_neg e]
theorem oM_t {i : Nat} : (oM M0 p f T)[M0.length + p + i]? = T[i]? := by
  unfold oM
  rw [List.getElem?_append_right (by rw [List.length_append, objs_len]; omega), List.length_append, objs_len]
  congr 1
  omega
theorem oM_tset {i : Nat} {o : O} : (oM M0 p f T).set (M0.length + p + i) o = oM M0 p f (T.set i o) := by
  unfold oM
  rw [List.set_append_right _ _ (by rw [List.length_append, objs_len]; omega), List.length_append, objs_len]
  congr 2
  omega
/-- items: an open list, or one at rest -/
def iL (M0 : Mem) (p : Nat) (c : Nat → Option (List Nat)) : List D := (List.range p).map fun i => match c i with
  | none => .ref (M0.length + i)
  | some l => lL l
theorem iL_len {c : Nat → Option (List Nat)} : (iL M0 p c).length = p := by simp [iL]
theorem iL_get {c : Nat → Option (List Nat)} {q : Nat} (h : q < p) : (iL M0 p c)[q]? = some (match c q with | none => .ref (M0.length + q) | some l => lL l) := by
  unfold iL
  rw [List.getElem?_map, List.getElem?_range h]
  rfl
theorem iL_set {c : Nat → Option (List Nat)} {q : Nat} {l : List Nat} : (iL M0 p c).set q (lL l) = iL M0 p fun i => if i = q then some l else c i := by
  unfold iL
  apply List.ext_getElem?
  intro j
  by_cases hj : j < p
  · by_cases e : q = j
    · subst e
      rw [List.getElem?_set_self (by simpa using hj), List.getElem?_map, List.getElem?_range hj]
      simp
    · rw [List.getElem?_set_ne e, List.getElem?_map, List.getElem?_map, List.getElem?_range hj]
      simp [Ne.symm e]
  · rw [List.getElem?_eq_none (by simp; omega), List.getElem?_eq_none (by simp; omega)]
/-- the item, and what stands there -/
def itm (M0 : Mem) (c : Nat → Option (List Nat)) (q : Nat) : D := match c q with | none => .ref (M0.length + q) | some l => lL l
def con (f : Nat → List Nat) (c : Nat → Option (List Nat)) (q : Nat) : List Nat := (c q).getD (f q)
theorem itm_res {c : Nat → Option (List Nat)} {q : Nat} (h : q < p) : res (oM M0 p f T) (itm M0 c q) = lL (con f c q) := by
  unfold itm con
  cases c q with
  | none =>
    show res _ (.ref (M0.length + q)) = _
    unfold res
    simp only [oM_get h]
    rfl
  | some l => rfl
theorem itm_in {c : Nat → Option (List Nat)} {q y : Nat} (h : q < p) : inAll (.int y) (itm M0 c q) (oM M0 p f T) = some (.ok (.bl (decide (y ∈ con f c q))), oM M0 p f T) ∧ ninAll (.int y) (itm M0 c q) (oM M0 p f T) = some (.ok (.bl (!decide (y ∈ con f c q))), oM M0 p f T) := by
  have e := itm_res (M0 := M0) (f := f) (T := T) (c := c) h
  have e1 : dctB (oM M0 p f T) (itm M0 c q) = none := by unfold dctB; rw [e]; rfl
  have e2 : seqB (oM M0 p f T) (itm M0 c q) = some ((con f c q).map eN) := by unfold seqB; rw [e]; rfl
  have e3 : inB (oM M0 p f T) (.int y) (itm M0 c q) = some (decide (y ∈ con f c q)) := by
    rw [inB_pl (x := .int y) ⟨rfl, Nat.zero_le _⟩ (pl_nats _) e2]
    congr 1
    rw [Bool.eq_iff_iff]
    simp only [decide_eq_true_eq, List.mem_map]
    constructor
    · rintro ⟨a, h1, h2⟩
      have : a = y := by have h3 : (a : Int) = y := by injection h2
                         omega
      exact this ▸ h1
    · exact fun h => ⟨y, h, rfl⟩
  constructor
  · unfold inAll inD
    simp only [e1, e3]
  · unfold ninAll ninD
    simp only [e1, e3]
theorem itm_sub {c : Nat → Option (List Nat)} {q : Nat} (h : q < p) : subD' (.ref (M0.length + p)) (.int q) (oM M0 p f (.lst (iL M0 p c) :: T)) = some (.ok (itm M0 c q), oM M0 p f (.lst (iL M0 p c) :: T)) :=
  sub_ref (oM_t (i := 0)) (iL_get h)
theorem itm_add {c : Nat → Option (List Nat)} {q : Nat} {l : List Nat} (h : q < p) (hl : (con f c q).length + l.length ≤ 1000) : addD (itm M0 c q) (lL l) (oM M0 p f T) = some (.ok (lL (con f c q ++ l)), oM M0 p f T) := by
  unfold addD
  rw [itm_res h]
  have : lenOk ((con f c q).map eN).length.succ = lenOk ((con f c q).map eN).length.succ := rfl
  have e : lenOk (((con f c q).map eN).length + (l.map eN).length) = true := by
    unfold lenOk
    rw [PySem.sizeLine_eq]
    simp
    omega
  show cond (lenOk (((con f c q).map eN).length + (l.map eN).length)) _ _ = _
  rw [e, cond_true, ← List.map_append]
  rfl
end
/-- the lines given -/
theorem lf_l1 {G O P N K B : Option D} {f : Nat → List Nat} {x y : Nat} (hx : x < p) (hy : y < p) (hxy : x ≠ y) (hl : ∀ a, (f a).length ≤ 500) :
    l1__law_filled [G, O, P, some (.int y), some (.ref (M0.length + p)), some (.int x), N, K, B] (oM M0 p f [.lst (iL M0 p fun _ => none)]) =
      some (.nx [G, O, P, some (.int y), some (.ref (M0.length + p)), some (.int x), N, K, B], oM M0 p (upd (upd f x (f x ++ [y])) y (f y ++ [x])) [.lst (iL M0 p fun _ => none)]) := by
  have e1 : subD' (.ref (M0.length + p)) (.int x) (oM M0 p f [.lst (iL M0 p fun _ => none)]) = some (.ok (.ref (M0.length + x)), oM M0 p f [.lst (iL M0 p fun _ => none)]) := itm_sub hx
  have e2 : subD' (.ref (M0.length + p)) (.int y) (oM M0 p (upd f x (f x ++ [y])) [.lst (iL M0 p fun _ => none)]) = some (.ok (.ref (M0.length + y)), oM M0 p (upd f x (f x ++ [y])) [.lst (iL M0 p fun _ => none)]) := itm_sub hy
  have i1 : isL (oM M0 p f [.lst (iL M0 p fun _ => none)]) (.ref (M0.length + x)) = true := isL_ref (oM_get hx)
  have i2 : isL (oM M0 p (upd f x (f x ++ [y])) [.lst (iL M0 p fun _ => none)]) (.ref (M0.length + y)) = true := isL_ref (oM_get hy)
  have a1 : appendD (.ref (M0.length + x)) [.int y] (oM M0 p f [.lst (iL M0 p fun _ => none)]) = some (.ok .non, oM M0 p (upd f x (f x ++ [y])) [.lst (iL M0 p fun _ => none)]) := by
    rw [append_run (oM_get hx) (by rw [PySem.sizeLine_eq]; have := hl x; simp; omega), ← oM_set hx]
    simp [eN]
  have a2 : appendD (.ref (M0.length + y)) [.int x] (oM M0 p (upd f x (f x ++ [y])) [.lst (iL M0 p fun _ => none)]) = some (.ok .non, oM M0 p (upd (upd f x (f x ++ [y])) y (f y ++ [x])) [.lst (iL M0 p fun _ => none)]) := by
    have hy' : upd f x (f x ++ [y]) y = f y := upd_ne (Ne.symm hxy)
    rw [append_run (oM_get hy) (by rw [PySem.sizeLine_eq, hy']; have := hl y; simp; omega), hy', ← oM_set (f := upd f x (f x ++ [y])) hy]
    simp [eN]
  unfold l1__law_filled
  simp -implicitDefEqProofs [sE, Mo.bnd, Mo.ret, e1, chkM, i1, a1, e2, i2, a2]
def fdD (fl : List (Nat × List Nat)) : List (D × D) := kvs kI lL fl
def LT (M0 : Mem) (p : Nat) (c : Nat → Option (List Nat)) (fl : List (Nat × List Nat)) : Mem := [.lst (iL M0 p c), .dct false (fdD fl)]
def LF (M0 : Mem) (p : Nat) (es : List (Nat × Nat)) (L : List Nat) (a b c d e : Option D) : En := [some (graD p es), some (ordD L), a, b, some (.ref (M0.length + p)), c, some (.ref (M0.length + p + 1)), d, e]
/-- the neighbours of a point that goes are joined -/
theorem lf_l2 {v x : Nat} {f : Nat → List Nat} {c : Nat → Option (List Nat)} {fl : List (Nat × List Nat)} {S : List Nat} {b d e : Option D} (hx : x < p) (hS : S.length ≤ 9) (hg : aGet fl v = some S) (hl : (con f c x).length ≤ 980) :
    l2__law_filled (LF M0 p es L (some (.int v)) b (some (.int x)) d e) (oM M0 p f (LT M0 p c fl)) =
      some (.nx (LF M0 p es L (some (.int v)) b (some (.int x)) d e), oM M0 p f (LT M0 p (fun i => if i = x then some (con f c x ++ S.filter fun y => decide (y ≠ x ∧ y ∉ con f c x)) else c i) fl)) := by
  obtain ⟨W, eW⟩ : ∃ W, (S.filter fun y => decide (y ≠ x ∧ y ∉ con f c x)) = W := ⟨_, rfl⟩
  have hW : W.length ≤ 9 := by
    rw [← eW]
    exact Nat.le_trans (List.length_filter_le _ _) hS
  rw [eW]
  have e1 : subD' (.ref (M0.length + p)) (.int x) (oM M0 p f (LT M0 p c fl)) = some (.ok (itm M0 c x), oM M0 p f (LT M0 p c fl)) := itm_sub hx
  have e2 : subD' (.ref (M0.length + p + 1)) (.int v) (oM M0 p f (LT M0 p c fl)) = some (.ok (lL S), oM M0 p f (LT M0 p c fl)) :=
    sub_dct (res_ref (oM_t (i := 1))) (by unfold fdD; rw [lookB_kI, hg]; rfl)
  have e3 : itD (lL S) (oM M0 p f (LT M0 p c fl)) = some (.ok ⟨S.map eN, none⟩, oM M0 p f (LT M0 p c fl)) := rfl
  have e4 : addD (itm M0 c x) (lL W) (oM M0 p f (LT M0 p c fl)) = some (.ok (lL (con f c x ++ W)), oM M0 p f (LT M0 p c fl)) := itm_add hx (by omega)
  have st := store_lst (ρ := LF M0 p es L (some (.int v)) b (some (.int x)) d e) (v := lL (con f c x ++ W)) (oM_t (M0 := M0) (p := p) (f := f) (T := LT M0 p c fl) (i := 0)) (r := x) (by rw [iL_len]; exact hx)
  rw [oM_tset, iL_set] at st
  have st' : storeM (.ref (M0.length + p)) (.int x) (lL (con f c x ++ W)) (LF M0 p es L (some (.int v)) b (some (.int x)) d e) (oM M0 p f (LT M0 p c fl)) = some (.ok (LF M0 p es L (some (.int v)) b (some (.int x)) d e), oM M0 p f (LT M0 p (fun i => if i = x then some (con f c x ++ W) else c i) fl)) := st
  unfold l2__law_filled
  refine (sE_M (a := lL (con f c x ++ W)) (M1 := oM M0 p f (LT M0 p c fl)) ?_).trans ?_
  · refine (bnd_M (a := itm M0 c x) (M1 := oM M0 p f (LT M0 p c fl)) ?_).trans ?_
    · unfold LF
      simp -implicitDefEqProofs [Mo.bnd, Mo.ret, e1]
    refine (bnd_M (a := lL W) (M1 := oM M0 p f (LT M0 p c fl)) ?_).trans e4
    refine (bnd_M (a := ⟨S.map eN, none⟩) (M1 := oM M0 p f (LT M0 p c fl)) ?_).trans ?_
    · unfold LF
      simp -implicitDefEqProofs [Mo.bnd, Mo.ret, e2, e3]
    · rw [← eW]
      refine cmp_lstM (comp_ifM (g := eN) (p := fun y => decide (y ≠ x ∧ y ∉ con f c x)) (f := eN) fun y hy => ?_) ?_
      · have n1 := (itm_in (M0 := M0) (f := f) (T := LT M0 p c fl) (c := c) (y := y) hx).2
        have hd : decide ((y : Int) = x) = decide (y = x) := by rw [Bool.eq_iff_iff]; simp; omega
        unfold LF eN
        by_cases c1 : y = x
        · have c1' : (y : Int) = x := by omega
          simp -implicitDefEqProofs [turn1, wipeR, Mo.bnd, Mo.ret, c1', c1]
        · have c1' : ¬ (y : Int) = x := by omega
          by_cases c2 : y ∈ con f c x
          · simp -implicitDefEqProofs [turn1, wipeR, Mo.bnd, Mo.ret, c1', c1, e1, n1, c2]
          · simp -implicitDefEqProofs [turn1, wipeR, Mo.bnd, Mo.ret, c1', c1, e1, n1, c2, one']
      · rw [eW, List.length_map]
        omega
  · unfold LF at st' ⊢
    simp -implicitDefEqProofs [Mo.bnd, Mo.ret, s0, st']
end K67
namespace K67
open DL
variable {M0 : Mem} {p : Nat} {es : List (Nat × Nat)} {L : List Nat}
theorem lf_for {v : Nat} {f : Nat → List Nat} {c : Nat → Option (List Nat)} {fl : List (Nat × List Nat)} {S : List Nat} {b o d e : Option D} (hS : ∀ x ∈ S, x < p) (hSl : S.length ≤ 9) (hg : aGet fl v = some S) (hl : ∀ a, (con f c a).length ≤ 890) :
    ∃ (c' : Nat → Option (List Nat)) (o' : Option D), forL none (fun d ρ => .ret (ρ.set 5 (some d))) l2__law_filled (S.map eN) (LF M0 p es L (some (.int v)) b o d e) (oM M0 p f (LT M0 p c fl)) =
        some (.nx (LF M0 p es L (some (.int v)) b o' d e), oM M0 p f (LT M0 p c' fl)) ∧
      (∀ a y, y ∈ con f c' a ↔ y ∈ con f c a ∨ (a ∈ S ∧ y ∈ S ∧ y ≠ a)) ∧ ∀ a n, (con f c a).length ≤ n → (con f c' a).length ≤ n + 81 := by
  obtain ⟨ρ1, M1, e1, c', o', rfl, rfl, h1, h2⟩ := forL_ind (h := fun d ρ => .ret (ρ.set 5 (some d))) (body := l2__law_filled)
    (fun i ρ M => ∃ (c' : Nat → Option (List Nat)) (o' : Option D), ρ = LF M0 p es L (some (.int v)) b o' d e ∧ M = oM M0 p f (LT M0 p c' fl) ∧
      (∀ a y, y ∈ con f c' a ↔ y ∈ con f c a ∨ (a ∈ S.take i ∧ y ∈ S ∧ y ≠ a)) ∧ ∀ a n, (con f c a).length ≤ n → (con f c' a).length ≤ n + i * 9)
    (S.map eN) 0 (LF M0 p es L (some (.int v)) b o d e) (oM M0 p f (LT M0 p c fl)) ⟨c, o, rfl, rfl, by simp, fun a n h => by omega⟩ (by
      rintro j dd ρ M hj ⟨c', o', rfl, rfl, h1, h2⟩
      rw [Nat.zero_add] at *
      obtain ⟨hj', hd⟩ := List.getElem?_eq_some_iff.mp hj
      rw [List.length_map] at hj'
      rw [List.getElem_map] at hd
      subst hd
      obtain ⟨x, ex⟩ : ∃ x, S[j] = x := ⟨_, rfl⟩
      have hx : x < p := hS x (ex ▸ List.getElem_mem hj')
      rw [ex]
      have hcl := h2 x 890 (hl x)
      have z := lf_l2 (M0 := M0) (es := es) (L := L) (v := v) (f := f) (c := c') (fl := fl) (S := S) (b := b) (d := d) (e := e) hx hSl hg (by omega)
      have tk : ∀ b, b ∈ S.take (j + 1) ↔ b ∈ S.take j ∨ b = x := by
        intro b
        rw [List.take_succ_eq_append_getElem hj', List.mem_append, List.mem_singleton, ex]
      refine ⟨LF M0 p es L (some (.int v)) b (some (.int x)) d e, _, rfl, _, _, .inl z, _, _, rfl, rfl, ?_, ?_⟩
      · intro a y
        rw [tk]
        unfold con
        by_cases ha : a = x
        · subst ha
          simp only [if_true, Option.getD_some]
          rw [List.mem_append, List.mem_filter, decide_eq_true_eq]
          have h1' := h1 a y
          unfold con at h1'
          rw [h1']
          constructor
          · rintro ((h | ⟨h, h5⟩) | ⟨h, h5, h6⟩)
            · exact .inl h
            · exact .inr ⟨.inl h, h5⟩
            · exact .inr ⟨.inr trivial, h, h5⟩
          · rintro (h | ⟨_, h, h5⟩)
            · exact .inl (.inl h)
            · by_cases q : y ∈ (c' a).getD (f a)
              · exact .inl (h1'.mp q)
              · exact .inr ⟨h, h5, fun w => q (h1'.mpr w)⟩
        · simp only [if_neg ha]
          have h1' := h1 a y
          unfold con at h1'
          rw [h1']
          constructor
          · rintro (h | ⟨h, h5⟩)
            · exact .inl h
            · exact .inr ⟨.inl h, h5⟩
          · rintro (h | ⟨h | h, h5⟩)
            · exact .inl h
            · exact .inr ⟨h, h5⟩
            · exact absurd h ha
      · intro a n hn
        have h2' := h2 a n hn
        by_cases ha : a = x
        · subst ha
          unfold con at h2' ⊢
          simp only [if_true, Option.getD_some]
          rw [List.length_append]
          have := List.length_filter_le (fun y => decide (y ≠ a ∧ y ∉ (c' a).getD (f a))) S
          omega
        · unfold con at h2' ⊢
          simp only [if_neg ha]
          omega)
  rw [List.length_map, Nat.zero_add, List.take_length] at h1
  rw [List.length_map, Nat.zero_add] at h2
  exact ⟨c', o', e1, h1, fun a n h => by have := h2 a n h; omega⟩
/-- one point of the order -/
theorem lf_l3 {k v : Nat} {f : Nat → List Nat} {c : Nat → Option (List Nat)} {fl : List (Nat × List Nat)} {a b o e : Option D} (hp : p ≤ 9) (od : Ord p L) (ok : ∀ a ∈ es, a.1 < a.2 ∧ a.2 < p) (hv : L[k]? = some v)
    (hm : ∀ x y, y ∈ con f c x ↔ FB es L k x y) (hl : ∀ a, (con f c a).length ≤ 890) (hfl : fl.length ≤ 100) (hn : v ∉ fl.map (·.1)) :
    ∃ (c' : Nat → Option (List Nat)) (b' o' e' : Option D), l3__law_filled (LF M0 p es L a b o (some (.int k)) e) (oM M0 p f (LT M0 p c fl)) =
        some (.nx (LF M0 p es L (some (.int v)) b' o' (some (.int k)) e'), oM M0 p f (LT M0 p c' (fl ++ [(v, latv es L v)]))) ∧
      (∀ x y, y ∈ con f c' x ↔ FB es L (k + 1) x y) ∧ ∀ a n, (con f c a).length ≤ n → (con f c' a).length ≤ n + 81 := by
  have hpl : pl L v = k := pl_at od hv
  have hvL : v ∈ L := List.mem_of_getElem? hv
  have hvp : v < p := od.lt v hvL
  have hlm : ∀ y, y ∈ latv es L v ↔ y ∈ L.drop (k + 1) ∧ FB es L k v y := by
    intro y; unfold latv; rw [hpl]; exact lat_mem
  have hfil : ((L.drop (k + 1)).filter fun y => decide (y ∈ con f c v)) = latv es L v := by
    unfold latv lat
    rw [hpl]
    apply List.filter_congr
    intro y _
    rw [Bool.eq_iff_iff, decide_eq_true_eq, @decide_eq_true_eq _ (Classical.propDecidable _)]
    exact hm v y
  obtain ⟨hS1, hS2⟩ := latv_len ok od hvp
  have hg : aGet (fl ++ [(v, latv es L v)]) v = some (latv es L v) := by
    rw [aGet_app, aGet_none.mpr hn]
    show (if v = v then _ else _) = _
    rw [if_pos rfl]
  obtain ⟨c', o', e1, h1, h2⟩ := lf_for (M0 := M0) (es := es) (L := L) (v := v) (f := f) (c := c) (fl := fl ++ [(v, latv es L v)]) (S := latv es L v) (b := b) (o := o) (d := some (.int k)) (e := some (ordD (L.drop (k + 1)))) hS2 (by omega) hg hl
  refine ⟨c', b, o', some (ordD (L.drop (k + 1))), ?_, ?_, h2⟩
  · unfold l3__law_filled
    refine (run_seq (ρ1 := LF M0 p es L (some (.int v)) b o (some (.int k)) (some (ordD (L.drop (k + 1))))) (M1 := oM M0 p f (LT M0 p c fl)) ?_).trans ?_
    · have s1 : subD' (ordD L) (.int k) = .ret (.int v) := sub_tup (atD_nat (by rw [List.getElem?_map, hv]; rfl))
      have s2 : sliceD (ordD L) (some ((k : Int) + 1)) none = .ret (ordD (L.drop (k + 1))) := by
        unfold ordD
        rw [slice_tup, show ((k : Int) + 1) = ((k + 1 : Nat) : Int) by omega, cut_from, List.map_drop]
      have t2 : tupD [.int v, ordD (L.drop (k + 1))] = .ret (.tup [.int v, ordD (L.drop (k + 1))]) := tup_ok (by rw [PySem.sizeLine_eq]; simp)
      unfold LF
      simp -implicitDefEqProofs [sE, Mo.bnd, Mo.ret, s1, s2, t2, s0, partD, items_ok]
    refine (run_seq (ρ1 := LF M0 p es L (some (.int v)) b o (some (.int k)) (some (ordD (L.drop (k + 1))))) (M1 := oM M0 p f (LT M0 p c (fl ++ [(v, latv es L v)]))) ?_).trans ?_
    · refine (sE_M (a := lL (latv es L v)) (M1 := oM M0 p f (LT M0 p c fl)) ?_).trans ?_
      · have it : itD (ordD (L.drop (k + 1))) = .ret ⟨(L.drop (k + 1)).map eN, none⟩ := rfl
        refine (bnd_M (a := ⟨(L.drop (k + 1)).map eN, none⟩) (M1 := oM M0 p f (LT M0 p c fl)) ?_).trans ?_
        · unfold LF
          simp -implicitDefEqProofs [it]
          rfl
        · rw [← hfil]
          refine cmp_lstM (comp_ifM (g := eN) (p := fun y => decide (y ∈ con f c v)) (f := eN) fun y hy => ?_) ?_
          · have n1 := (itm_in (M0 := M0) (f := f) (T := LT M0 p c fl) (c := c) (y := y) hvp).1
            have n2 : subD' (.ref (M0.length + p)) (.int v) (oM M0 p f (LT M0 p c fl)) = some (.ok (itm M0 c v), oM M0 p f (LT M0 p c fl)) := itm_sub hvp
            unfold LF eN
            by_cases c2 : y ∈ con f c v
            · simp -implicitDefEqProofs [turn1, wipeR, Mo.bnd, Mo.ret, n2, n1, c2, one']
            · simp -implicitDefEqProofs [turn1, wipeR, Mo.bnd, Mo.ret, n2, n1, c2, one']
          · rw [hfil, List.length_map]
            omega
      · have st := store_dct (ρ := LF M0 p es L (some (.int v)) b o (some (.int k)) (some (ordD (L.drop (k + 1))))) (oM_t (M0 := M0) (p := p) (f := f) (T := LT M0 p c fl) (i := 1)) (b := .int v) (v := lL (latv es L v)) (by unfold fdD; rw [kvs_len]; omega) (putB_kI lL)
        rw [oM_tset, aPut_new hn] at st
        have st' : storeM (.ref (M0.length + p + 1)) (.int v) (lL (latv es L v)) (LF M0 p es L (some (.int v)) b o (some (.int k)) (some (ordD (L.drop (k + 1))))) (oM M0 p f (LT M0 p c fl)) = some (.ok (LF M0 p es L (some (.int v)) b o (some (.int k)) (some (ordD (L.drop (k + 1))))), oM M0 p f (LT M0 p c (fl ++ [(v, latv es L v)]))) := st
        unfold LF at st' ⊢
        simp -implicitDefEqProofs [Mo.bnd, Mo.ret, s0, st']
    · have e2 : subD' (.ref (M0.length + p + 1)) (.int v) (oM M0 p f (LT M0 p c (fl ++ [(v, latv es L v)]))) = some (.ok (lL (latv es L v)), oM M0 p f (LT M0 p c (fl ++ [(v, latv es L v)]))) :=
        sub_dct (res_ref (oM_t (i := 1))) (by rw [show fdD (fl ++ [(v, latv es L v)]) = kvs kI lL (fl ++ [(v, latv es L v)]) from rfl, lookB_kI, hg]; rfl)
      have e3 : itD (lL (latv es L v)) = .ret ⟨(latv es L v).map eN, none⟩ := rfl
      simp only [for_app]
      refine (sE_M (a := ⟨(latv es L v).map eN, none⟩) (M1 := oM M0 p f (LT M0 p c (fl ++ [(v, latv es L v)]))) ?_).trans e1
      unfold LF
      simp -implicitDefEqProofs [Mo.bnd, Mo.ret, e2, e3]
  · intro x y
    rw [h1, hm, hlm, hlm]
    show _ ↔ FB es L k x y ∨ _
    constructor
    · rintro (h | ⟨⟨h, h5⟩, ⟨h6, h7⟩, h8⟩)
      · exact .inl h
      · exact .inr ⟨fun q => h8 q.symm, h, h6, v, hv, h5, h7⟩
    · rintro (h | ⟨h, h5, h6, v', hv', h7, h8⟩)
      · exact .inl h
      · rw [hv] at hv'
        cases hv'
        exact .inr ⟨⟨h5, h7⟩, ⟨h6, h8⟩, fun q => h q.symm⟩
end K67
namespace K67
open DL
variable {M0 : Mem} {p : Nat} {es : List (Nat × Nat)} {L : List Nat}
noncomputable def laterL (es : List (Nat × Nat)) (L : List Nat) : List (Nat × List Nat) := L.map fun v => (v, latv es L v)
noncomputable def laterD (es : List (Nat × Nat)) (L : List Nat) : D := .dct false (fdD (laterL es L))
theorem laterL_keys : (laterL es L).map (·.1) = L := by
  unfold laterL
  rw [List.map_map]
  exact List.map_id L
theorem norefK_fd (fl : List (Nat × List Nat)) : norefK (fdD fl) = true := by
  induction fl with
  | nil => rfl
  | cons a r ih =>
    show norefK ((D.int a.1, lL a.2) :: fdD r) = true
    have : norefL (a.2.map eN) = true := norefL_nats _
    simp [norefK, ih, noref, lL, this]
theorem lf_given (hp : p ≤ 9) (gr : Gr p es) : ∃ (f : Nat → List Nat) (a b : Option D), forL none (fun d ρ => .bnd (itemsT 2 d) fun ds => (gConsD (fun d ρ => .ret (ρ.set 5 (some d))) (gConsD (fun d ρ => .ret (ρ.set 3 (some d))) gNilD)) ds ρ) l1__law_filled (es.map eP)
      [some (graD p es), some (ordD L), none, none, some (.ref (M0.length + p)), none, none, none, none] (oM M0 p (fun _ => []) [.lst (iL M0 p fun _ => none)]) =
      some (.nx [some (graD p es), some (ordD L), none, a, some (.ref (M0.length + p)), b, none, none, none], oM M0 p f [.lst (iL M0 p fun _ => none)]) ∧ (∀ x y, y ∈ f x ↔ E es x y) ∧ ∀ x, (f x).length ≤ 81 := by
  have hpp : p * p ≤ 9 * 9 := Nat.mul_le_mul hp hp
  have hel := gr.len
  obtain ⟨ρ1, M1, e1, f, a, b, rfl, rfl, h1, h2⟩ := forL_ind (h := fun d ρ => .bnd (itemsT 2 d) fun ds => (gConsD (fun d ρ => .ret (ρ.set 5 (some d))) (gConsD (fun d ρ => .ret (ρ.set 3 (some d))) gNilD)) ds ρ) (body := l1__law_filled)
    (fun i ρ M => ∃ (f : Nat → List Nat) (a b : Option D), ρ = [some (graD p es), some (ordD L), none, a, some (.ref (M0.length + p)), b, none, none, none] ∧ M = oM M0 p f [.lst (iL M0 p fun _ => none)] ∧ (∀ x y, y ∈ f x ↔ E (es.take i) x y) ∧ ∀ x, (f x).length ≤ i)
    (es.map eP) 0 [some (graD p es), some (ordD L), none, none, some (.ref (M0.length + p)), none, none, none, none] (oM M0 p (fun _ => []) [.lst (iL M0 p fun _ => none)])
    ⟨fun _ => [], none, none, rfl, rfl, fun x y => by simp [E], fun x => by simp⟩ (by
      rintro j dd ρ M hj ⟨f, a, b, rfl, rfl, h1, h2⟩
      rw [Nat.zero_add] at *
      obtain ⟨hj', hd⟩ := List.getElem?_eq_some_iff.mp hj
      rw [List.length_map] at hj'
      rw [List.getElem_map] at hd
      subst hd
      have hok := gr.ok _ (List.getElem_mem hj')
      have z := lf_l1 (M0 := M0) (p := p) (f := f) (G := some (graD p es)) (O := some (ordD L)) (P := none) (N := none) (K := none) (B := none) (x := es[j].1) (y := es[j].2) (by omega) hok.2 (by omega) (fun a => by have := h2 a; omega)
      refine ⟨[some (graD p es), some (ordD L), none, some (.int es[j].2), some (.ref (M0.length + p)), some (.int es[j].1), none, none, none], _, ?_, _, _, .inl z, _, _, _, rfl, rfl, ?_, ?_⟩
      · simp -implicitDefEqProofs [eP]; rfl
      · intro x y
        unfold E
        rw [List.take_succ_eq_append_getElem hj', List.mem_append, List.mem_append, List.mem_singleton, List.mem_singleton]
        have hh := h1 x y
        unfold E at hh
        by_cases c1 : x = es[j].2
        · have c2 : x ≠ es[j].1 := by omega
          rw [c1, upd_at, List.mem_append, List.mem_singleton]
          have hh := h1 es[j].2 y
          unfold E at hh
          rw [hh]
          constructor
          · rintro ((h | h) | h)
            · exact .inl (.inl h)
            · exact .inr (.inl h)
            · exact .inr (.inr (by rw [h]))
          · rintro ((h | h) | (h | h))
            · exact .inl (.inl h)
            · have := congrArg Prod.fst h; simp only at this; omega
            · exact .inl (.inr h)
            · exact .inr (congrArg Prod.fst h)
        · rw [upd_ne c1]
          by_cases c2 : x = es[j].1
          · rw [c2, upd_at, List.mem_append, List.mem_singleton]
            have hh := h1 es[j].1 y
            unfold E at hh
            rw [hh]
            constructor
            · rintro ((h | h) | h)
              · exact .inl (.inl h)
              · exact .inr (.inl h)
              · exact .inl (.inr (by rw [h]))
            · rintro ((h | h) | (h | h))
              · exact .inl (.inl h)
              · exact .inr (congrArg Prod.snd h)
              · exact .inl (.inr h)
              · have := congrArg Prod.snd h; simp only at this; omega
          · rw [upd_ne c2, hh]
            constructor
            · rintro (h | h)
              · exact .inl (.inl h)
              · exact .inr (.inl h)
            · rintro ((h | h) | (h | h))
              · exact .inl h
              · exact absurd (congrArg Prod.fst h) c2
              · exact .inr h
              · exact absurd (congrArg Prod.snd h) c1
      · intro x
        by_cases c1 : x = es[j].2
        · rw [c1, upd_at, List.length_append]
          have := h2 es[j].2
          simp; omega
        · rw [upd_ne c1]
          by_cases c2 : x = es[j].1
          · rw [c2, upd_at, List.length_append]
            have := h2 es[j].1
            simp; omega
          · rw [upd_ne c2]
            have := h2 x; omega)
  rw [List.length_map, Nat.zero_add, List.take_length] at h1
  rw [List.length_map, Nat.zero_add] at h2
  exact ⟨f, a, b, e1, h1, fun x => by have := h2 x; omega⟩
theorem law_filled_run (hp : p ≤ 9) (gr : Gr p es) (o : Ord p L) : m__law_filled [graD p es, ordD L] M0 = some (.ok (laterD es L), M0) := by
  obtain ⟨f, x, y, e0, hf, hfl⟩ := lf_given (M0 := M0) (L := L) hp gr
  obtain ⟨ρ1, M1, e1, c, a, b, q, k, e, rfl, rfl, h1, h2⟩ := forL_ind (h := fun d ρ => .ret (ρ.set 7 (some d))) (body := l3__law_filled)
    (fun i ρ M => ∃ (c : Nat → Option (List Nat)) (a b q k e : Option D), ρ = LF M0 p es L a b q k e ∧ M = oM M0 p f (LT M0 p c (laterL es L |>.take i)) ∧ (∀ x y, y ∈ con f c x ↔ FB es L i x y) ∧ ∀ x, (con f c x).length ≤ 81 + i * 81)
    ((List.range p).map fun k => .int (k : Nat)) 0 (LF M0 p es L none x y none none) (oM M0 p f (LT M0 p (fun _ => none) []))
    ⟨fun _ => none, none, x, y, none, none, rfl, rfl, hf, fun x => by have := hfl x; show (f x).length ≤ _; omega⟩ (by
      rintro i dd ρ M hj ⟨c, a, b, q, k, e, rfl, rfl, h1, h2⟩
      rw [Nat.zero_add] at *
      obtain ⟨hj', hd⟩ := List.getElem?_eq_some_iff.mp hj
      simp only [List.length_map, List.length_range] at hj'
      rw [List.getElem_map, List.getElem_range] at hd
      subst hd
      have hiL : i < L.length := by rw [o.len]; exact hj'
      have hv : L[i]? = some L[i] := List.getElem?_eq_getElem hiL
      have hkeys : ((laterL es L).take i).map (·.1) = L.take i := by rw [List.map_take, laterL_keys]
      have hn : L[i] ∉ ((laterL es L).take i).map (·.1) := by
        rw [hkeys]
        intro q
        obtain ⟨j, hj2, ej⟩ := List.mem_take_iff_getElem.mp q
        have := List.pairwise_iff_getElem.mp o.nd j i (by omega) hiL (by omega)
        exact this ej
      obtain ⟨c', b', o', e', z, k1, k2⟩ := lf_l3 (M0 := M0) (f := f) (c := c) (fl := (laterL es L).take i) (a := a) (b := b) (o := q) (e := e) hp o gr.ok hv h1 (fun x => by have := h2 x; omega) (by rw [List.length_take]; omega) hn
      refine ⟨LF M0 p es L a b q (some (.int i)) e, _, rfl, _, _, .inl z, c', _, _, _, _, _, rfl, ?_, k1, fun x => by have := k2 x _ (h2 x); omega⟩
      congr 2
      have hli : i < (laterL es L).length := by unfold laterL; rw [List.length_map]; exact hiL
      rw [List.take_succ_eq_append_getElem hli]
      congr 2
      exact (List.getElem_map (fun v => (v, latv es L v)) (l := L) (i := i) (h := hli)).symm)
  rw [List.length_map, List.length_range, Nat.zero_add] at e1
  have hll : (laterL es L).length = p := by unfold laterL; rw [List.length_map, o.len]
  rw [List.take_of_length_le (by omega)] at e1
  have em : oM M0 p f (LT M0 p c (laterL es L)) = M0 ++ (objs p (fun i => .lst ((f i).map eN)) ++ LT M0 p c (laterL es L)) := by
    unfold oM; rw [List.append_assoc]
  have hg : g__law_filled (startE N__law_filled [graD p es, ordD L]) M0 = some (.ret (.ref (M0.length + p + 1)), oM M0 p f (LT M0 p c (laterL es L))) := by
    unfold g__law_filled N__law_filled
    have rn := rngD1_nat (n := p) (by omega)
    refine (run_seq (ρ1 := [some (graD p es), some (ordD L), none, none, some (.ref (M0.length + p)), none, none, none, none]) (M1 := oM M0 p (fun _ => []) [.lst (iL M0 p fun _ => none)]) ?_).trans ?_
    · unfold graD
      simp -implicitDefEqProofs [startE, sE, Mo.bnd, Mo.ret]
      rw [rn]
      simp only [Mo.ret]
      rw [cmp_lstT (comp_new (o := .lst []) ?_) (by simp; omega)]
      · rw [objs_rep]
        have : (List.range' M0.length p).map D.ref = iL M0 p fun _ => none := by
          unfold iL
          rw [List.range'_eq_map_range, List.map_map]
          rfl
        simp [oM, this, objs_len]
      · intro d hd M
        simp [turn1, wipeR, one', Mo.bnd, Mo.ret, newL, lenOk]
    refine (run_seq (ρ1 := [some (graD p es), some (ordD L), none, x, some (.ref (M0.length + p)), y, none, none, none]) (M1 := oM M0 p f [.lst (iL M0 p fun _ => none)]) ?_).trans ?_
    · simp only [for_app]
      unfold graD at e0 ⊢
      simp -implicitDefEqProofs at e0 ⊢
      exact e0
    refine (run_seq (ρ1 := LF M0 p es L none x y none none) (M1 := oM M0 p f (LT M0 p (fun _ => none) [])) ?_).trans ?_
    · have e5 : finDO true (.dct false []) (.dct false []) (oM M0 p f [.lst (iL M0 p fun _ => none)]) = some (.ok (.ref (M0.length + p + 1)), oM M0 p f (LT M0 p (fun _ => none) [])) := by
        rw [finDO_t, oM_len]
        unfold oM LT
        simp [fdD, kvs]
      unfold LF
      simp -implicitDefEqProofs [sE, Mo.bnd, Mo.ret, e5]
    refine (run_seq (ρ1 := LF M0 p es L a b q k e) (M1 := oM M0 p f (LT M0 p c (laterL es L))) ?_).trans ?_
    · have l1 : lenD (ordD L) = .ret (.int p) := by
        have := len_tup (L.map eN)
        rw [List.length_map, o.len] at this
        exact this
      simp only [for_app]
      unfold LF at e1 ⊢
      simp -implicitDefEqProofs [l1, rn]
      exact e1
    · unfold LF
      simp -implicitDefEqProofs
  unfold m__law_filled
  refine fnD_obj (em ▸ hg) ?_
  rw [← em]
  show frF _ _ 3 (M0.length + p + 1) = _
  exact frF_dct (oM_t (i := 1)) (by omega) (norefK_fd _)
end K67
namespace K67
open DL
variable {M0 : Mem} {p : Nat} {es : List (Nat × Nat)} {L : List Nat}
abbrev Row := Option Nat × Nat × Nat
def optD : Option Nat → D
  | none => .non
  | some q => .int q
def rowD (t : Row) : D := .tup [optD t.1, .int t.2.1, .int t.2.2]
def tasksD (ts : List Row) : D := .tup (ts.map rowD)
theorem noref_row (t : Row) : noref (rowD t) = true := by
  obtain ⟨a, b, c⟩ := t
  cases a <;> rfl
theorem noref_tasks (ts : List Row) : noref (tasksD ts) = true := noref_tup (noref_map noref_row ts)
noncomputable def parOf (es : List (Nat × Nat)) (L : List Nat) (v : Nat) : Option Nat := (latv es L v).head?.map (pl L)
noncomputable def rowOf (es : List (Nat × Nat)) (L : List Nat) (v : Nat) : Row := (parOf es L v, ((latv es L v).length + 1) * ((latv es L v).length + 1), (latv es L v).length * (latv es L v).length)
noncomputable def taskL (es : List (Nat × Nat)) (L : List Nat) : List Row := L.map (rowOf es L)
theorem mul_nat {a b : Nat} (hb : b ≤ 2000) : mulD (.int a) (.int b) = .ret (.int ((a * b : Nat) : Int)) := by
  have h1 : -(2 ^ 64) < (b : Int) ∧ (b : Int) < 2 ^ 64 := by omega
  rw [mul_int (mul_small h1)]
  rw [Int.natCast_mul]
theorem mul_nat1 {a b : Nat} (hb : b ≤ 1000) : mulD (.int ((a : Int) + 1)) (.int ((b : Int) + 1)) = .ret (.int (((a + 1) * (b + 1) : Nat) : Int)) := mul_nat (a := a + 1) (b := b + 1) (by omega)
def TO (p : Nat) (es : List (Nat × Nat)) (L : List Nat) (lt : D) (n : Nat) (pt mn pr : Option D) : En := [some (graD p es), some (ordD L), none, pt, some lt, some (posD L), some (.ref n), mn, pr]
theorem tasks_step (hp : p ≤ 9) (ok : ∀ a ∈ es, a.1 < a.2 ∧ a.2 < p) (o : Ord p L) {v : Nat} (hv : v < p) {lt : D} (hlt : subD' lt (.int v) = .ret (ordD (latv es L v))) {fo : List D} (hfo : fo.length ≤ 100) {mn pr : Option D} :
    ∃ mn' pr', l1_tasks_of (TO p es L lt M0.length (some (.int v)) mn pr) (M0 ++ [.lst fo]) = some (.nx (TO p es L lt M0.length (some (.int v)) mn' pr'), M0 ++ [.lst (fo ++ [rowD (rowOf es L v)])]) := by
  obtain ⟨hl, hb⟩ := latv_len ok o hv
  obtain ⟨n, en⟩ : ∃ n, (latv es L v).length = n := ⟨_, rfl⟩
  have ll : lenD (ordD (latv es L v)) = .ret (.int n) := by
    have := len_tup ((latv es L v).map eN)
    rw [List.length_map, en] at this
    exact this
  refine ⟨some (.int n), some (optD (parOf es L v)), ?_⟩
  have ap := append_run (M := M0 ++ [.lst fo]) (d := rowD (rowOf es L v)) last_at (by rw [PySem.sizeLine_eq]; omega)
  rw [last_set] at ap
  have iL : isL (M0 ++ [.lst fo]) (.ref M0.length) = true := isL_ref last_at
  have m1 := mul_nat1 (a := n) (b := n) (by omega)
  have m2 := mul_nat (a := n) (b := n) (by omega)
  have er : rowD (rowOf es L v) = .tup [optD (parOf es L v), .int (((n + 1) * (n + 1) : Nat) : Int), .int ((n * n : Nat) : Int)] := by
    unfold rowD rowOf
    rw [en]
  obtain ⟨X, eX⟩ : ∃ X, (n + 1) * (n + 1) = X := ⟨_, rfl⟩
  obtain ⟨Y, eY⟩ : ∃ Y, n * n = Y := ⟨_, rfl⟩
  rw [eX] at m1 er
  rw [eY] at m2 er
  rw [er] at ap ⊢
  unfold l1_tasks_of
  refine (run_seq (ρ1 := TO p es L lt M0.length (some (.int v)) (some (.int n)) pr) (M1 := M0 ++ [.lst fo]) ?_).trans ?_
  · unfold TO
    simp -implicitDefEqProofs [hlt, ll]
  refine (run_seq (ρ1 := TO p es L lt M0.length (some (.int v)) (some (.int n)) (some (optD (parOf es L v)))) (M1 := M0 ++ [.lst fo]) ?_).trans ?_
  · unfold TO parOf
    cases hlv : latv es L v with
    | nil =>
      have : n = 0 := by rw [← en, hlv]; rfl
      subst this
      simp -implicitDefEqProofs [optD]
    | cons u r =>
      have hn : 0 < n := by rw [← en, hlv]; simp
      have hu : u < p := hb u (by rw [hlv]; exact List.mem_cons_self)
      obtain ⟨a, ha⟩ := pos_some (o.all u hu)
      have s1 : subD' (posD L) (.int u) = .ret (.int (pl L u : Nat)) := by
        have := sub_kI eN ha
        unfold pl
        rw [ha]
        exact this
      have s2 : subD' (ordD (latv es L v)) (.int 0) = .ret (.int u) := by
        rw [hlv]
        exact sub_tup (atD_nat (n := 0) rfl)
      rw [hlv] at hlt s2
      simp -implicitDefEqProofs [hn, hlt, s2, s1, optD]
  · unfold TO
    simp -implicitDefEqProofs [m1, m2]
    refine sE_M (a := .non) ?_
    unfold chkM
    rw [iL, cond_true]
    exact ap
theorem tasks_of_run (h0 : NR M0) (hp : p ≤ 9) (gr : Gr p es) (o : Ord p L) : m_tasks_of [graD p es, ordD L] M0 = some (.ok (tasksD (taskL es L)), M0) := by
  have hpp : p * p ≤ 9 * 9 := Nat.mul_le_mul hp hp
  have hlen := gr.len
  have e0 := later_of_run h0 hp gr.ok (by omega) o
  obtain ⟨lt, elt⟩ : ∃ lt, D.tup ((List.range p).map fun x => ordD (latv es L x)) = lt := ⟨_, rfl⟩
  have hsub : ∀ v, v < p → subD' lt (.int v) = .ret (ordD (latv es L v)) := by
    intro v hv
    rw [← elt]
    refine sub_tup (atD_nat ?_)
    rw [List.getElem?_map, List.getElem?_range hv]
    rfl
  rw [elt] at e0
  obtain ⟨ρ1, M1, e1, pt, mn, pr, rfl, rfl⟩ := forL_ind (h := fun d ρ => .ret (ρ.set 3 (some d))) (body := l1_tasks_of)
    (fun i ρ M => ∃ (pt mn pr : Option D), ρ = TO p es L lt M0.length pt mn pr ∧ M = M0 ++ [.lst ((L.take i).map fun v => rowD (rowOf es L v))])
    (L.map eN) 0 (TO p es L lt M0.length none none none) (M0 ++ [.lst []]) ⟨none, none, none, rfl, by simp⟩ (by
      rintro i dd ρ M hj ⟨pt, mn, pr, rfl, rfl⟩
      rw [Nat.zero_add] at *
      obtain ⟨hj', hd⟩ := List.getElem?_eq_some_iff.mp hj
      rw [List.length_map] at hj'
      rw [List.getElem_map] at hd
      subst hd
      have hv := o.lt _ (List.getElem_mem hj')
      obtain ⟨mn', pr', z⟩ := tasks_step (M0 := M0) hp gr.ok o hv (hsub _ hv) (fo := (L.take i).map fun v => rowD (rowOf es L v)) (mn := mn) (pr := pr) (by have := o.len; simp; omega)
      refine ⟨TO p es L lt M0.length (some (.int L[i])) mn pr, _, rfl, _, _, .inl z, _, _, _, rfl, ?_⟩
      rw [List.take_succ_eq_append_getElem hj', List.map_append]
      rfl)
  rw [List.length_map, Nat.zero_add, List.take_length] at e1
  have hres : (L.map fun v => rowD (rowOf es L v)) = (taskL es L).map rowD := by
    unfold taskL; rw [List.map_map]; rfl
  rw [hres] at e1
  unfold m_tasks_of
  refine fnD_new (M' := [.lst ((taskL es L).map rowD)]) ?_ (noref_tasks _)
  unfold g_tasks_of N_tasks_of
  refine (run_seq (ρ1 := [some (graD p es), some (ordD L), none, none, some lt, none, none, none, none]) (M1 := M0) ?_).trans ?_
  · simp -implicitDefEqProofs [startE, sE, Mo.bnd, Mo.ret, e0]
  refine (run_seq (ρ1 := [some (graD p es), some (ordD L), none, none, some lt, some (posD L), none, none, none]) (M1 := M0) ?_).trans ?_
  · simp -implicitDefEqProofs [enumD_ord]
    rw [comp_pos o.nd (by have := o.len; omega)]
    · simp -implicitDefEqProofs
    · intro p; simp -implicitDefEqProofs [turn1, wipeR, two']
  refine (run_seq (ρ1 := TO p es L lt M0.length none none none) (M1 := M0 ++ [.lst []]) ?_).trans ?_
  · have e5 : newL [] M0 = some (.ok (.ref M0.length), M0 ++ [.lst []]) := rfl
    unfold TO
    simp -implicitDefEqProofs [sE, Mo.bnd, Mo.ret, e5]
  refine (run_seq (ρ1 := TO p es L lt M0.length pt mn pr) (M1 := M0 ++ [.lst ((taskL es L).map rowD)]) ?_).trans ?_
  · have it : itD (ordD L) = .ret ⟨L.map eN, none⟩ := rfl
    simp only [for_app]
    unfold TO at e1 ⊢
    simp -implicitDefEqProofs [it]
    exact e1
  · have tl : tupleD (.ref M0.length) (M0 ++ [.lst ((taskL es L).map rowD)]) = some (.ok (tasksD (taskL es L)), M0 ++ [.lst ((taskL es L).map rowD)]) := by
      simp [tupleD, seqB, res, tasksD]
    unfold TO
    simp -implicitDefEqProofs [sE, Mo.bnd, Mo.ret, tl]
theorem idx_pl (o : Ord p L) {x : Nat} (h : x < p) : (L.map fun n : Nat => (n : Int)).idxOf (x : Int) = pl L x := by
  have hn : (L.map fun n : Nat => (n : Int)).Nodup := by
    unfold List.Nodup
    rw [List.pairwise_map]
    exact List.Pairwise.imp (fun h q => h (by omega)) o.nd
  obtain ⟨h1, h2⟩ := List.getElem?_eq_some_iff.mp (pl_get o h)
  have := List.Nodup.idxOf_getElem hn (pl L x) (by rw [List.length_map]; exact h1)
  rw [List.getElem_map, h2] at this
  exact this
theorem tix_run (o : Ord p L) {x : Nat} (h : x < p) : tixD (ordN L) [.int x] = .ret (.int (pl L x : Nat)) := by
  funext M
  unfold tixD ordN
  simp only [toI_nat, idx_pl o h]
  have : decide ((x : Int) ∈ L.map fun n : Nat => (n : Int)) = true := decide_eq_true (List.mem_map.mpr ⟨x, o.all x h, rfl⟩)
  rw [this]
  rfl
theorem later_sub (o : Ord p L) {v : Nat} (h : v < p) : subD' (laterD es L) (.int v) = .ret (lL (latv es L v)) := by
  refine sub_kI lL ?_
  refine (aGet_mem (by rw [laterL_keys]; exact o.nd)).mpr ?_
  exact List.mem_map.mpr ⟨v, o.all v h, rfl⟩
def LO (p : Nat) (es : List (Nat × Nat)) (L : List Nat) (lt : D) (n : Nat) (pt mn : Option D) : En := [some (graD p es), some (ordN L), some lt, some (.ref n), pt, mn]
theorem ltasks_step (hp : p ≤ 9) (ok : ∀ a ∈ es, a.1 < a.2 ∧ a.2 < p) (o : Ord p L) {v : Nat} (hv : v < p) {lt : D} (hlt : subD' lt (.int v) = .ret (lL (latv es L v))) {fo : List D} (hfo : fo.length ≤ 100) {mn : Option D} :
    ∃ mn', l1__law_tasks_of (LO p es L lt M0.length (some (.int v)) mn) (M0 ++ [.lst fo]) = some (.nx (LO p es L lt M0.length (some (.int v)) mn'), M0 ++ [.lst (fo ++ [rowD (rowOf es L v)])]) := by
  obtain ⟨hl, hb⟩ := latv_len ok o hv
  obtain ⟨n, en⟩ : ∃ n, (latv es L v).length = n := ⟨_, rfl⟩
  have ll : lenD (lL (latv es L v)) = .ret (.int n) := by
    have := len_lst ((latv es L v).map eN)
    rw [List.length_map, en] at this
    exact this
  refine ⟨some (.int n), ?_⟩
  have ap := append_run (M := M0 ++ [.lst fo]) (d := rowD (rowOf es L v)) last_at (by rw [PySem.sizeLine_eq]; omega)
  rw [last_set] at ap
  have iL : isL (M0 ++ [.lst fo]) (.ref M0.length) = true := isL_ref last_at
  have m1 := mul_nat1 (a := n) (b := n) (by omega)
  have m2 := mul_nat (a := n) (b := n) (by omega)
  have er : rowD (rowOf es L v) = .tup [optD (parOf es L v), .int (((n + 1) * (n + 1) : Nat) : Int), .int ((n * n : Nat) : Int)] := by
    unfold rowD rowOf
    rw [en]
  obtain ⟨X, eX⟩ : ∃ X, (n + 1) * (n + 1) = X := ⟨_, rfl⟩
  obtain ⟨Y, eY⟩ : ∃ Y, n * n = Y := ⟨_, rfl⟩
  rw [eX] at m1 er
  rw [eY] at m2 er
  rw [er] at ap ⊢
  unfold l1__law_tasks_of
  refine (run_seq (ρ1 := LO p es L lt M0.length (some (.int v)) (some (.int n))) (M1 := M0 ++ [.lst fo]) ?_).trans ?_
  · unfold LO
    simp -implicitDefEqProofs [hlt, ll]
  · unfold LO
    cases hlv : latv es L v with
    | nil =>
      have : n = 0 := by rw [← en, hlv]; rfl
      subst this
      have hpar : optD (parOf es L v) = .non := by unfold parOf; rw [hlv]; rfl
      rw [hpar] at ap ⊢
      simp -implicitDefEqProofs at m1 m2
      simp -implicitDefEqProofs [m1, m2]
      refine sE_M (a := .non) ?_
      unfold chkM
      rw [iL, cond_true]
      exact ap
    | cons u r =>
      have hn : 0 < n := by rw [← en, hlv]; simp
      have hu : u < p := hb u (by rw [hlv]; exact List.mem_cons_self)
      have hpar : optD (parOf es L v) = .int (pl L u : Nat) := by unfold parOf; rw [hlv]; rfl
      have s1 := tix_run o hu
      have s2 : subD' (lL (latv es L v)) (.int 0) = .ret (.int u) := by
        rw [hlv]
        exact sub_lst (atD_nat (n := 0) rfl)
      have cT : ∀ m : Mo D, chkM isT (ordN L) m = m := fun m => rfl
      rw [hlv] at hlt s2
      rw [hpar] at ap ⊢
      simp -implicitDefEqProofs [hn, hlt, s2, cT, s1, m1, m2]
      refine sE_M (a := .non) ?_
      unfold chkM
      rw [iL, cond_true]
      exact ap
theorem ltasks_run (hp : p ≤ 9) (gr : Gr p es) (o : Ord p L) : m__law_tasks_of [graD p es, ordN L] M0 = some (.ok (tasksD (taskL es L)), M0) := by
  have e0 := law_filled_run (M0 := M0) hp gr o
  have u1 : unT (ordN L) = ordD L := rfl
  have u2 : unT (graD p es) = graD p es := rfl
  obtain ⟨ρ1, M1, e1, pt, mn, rfl, rfl⟩ := forL_ind (h := fun d ρ => .ret (ρ.set 4 (some d))) (body := l1__law_tasks_of)
    (fun i ρ M => ∃ (pt mn : Option D), ρ = LO p es L (laterD es L) M0.length pt mn ∧ M = M0 ++ [.lst ((L.take i).map fun v => rowD (rowOf es L v))])
    (L.map eN) 0 (LO p es L (laterD es L) M0.length none none) (M0 ++ [.lst []]) ⟨none, none, rfl, by simp⟩ (by
      rintro i dd ρ M hj ⟨pt, mn, rfl, rfl⟩
      rw [Nat.zero_add] at *
      obtain ⟨hj', hd⟩ := List.getElem?_eq_some_iff.mp hj
      rw [List.length_map] at hj'
      rw [List.getElem_map] at hd
      subst hd
      have hv := o.lt _ (List.getElem_mem hj')
      obtain ⟨mn', z⟩ := ltasks_step (M0 := M0) hp gr.ok o hv (later_sub (es := es) o hv) (fo := (L.take i).map fun v => rowD (rowOf es L v)) (mn := mn) (by have := o.len; simp; omega)
      refine ⟨LO p es L (laterD es L) M0.length (some (.int L[i])) mn, _, rfl, _, _, .inl z, _, _, rfl, ?_⟩
      rw [List.take_succ_eq_append_getElem hj', List.map_append]
      rfl)
  rw [List.length_map, Nat.zero_add, List.take_length] at e1
  have hres : (L.map fun v => rowD (rowOf es L v)) = (taskL es L).map rowD := by
    unfold taskL; rw [List.map_map]; rfl
  rw [hres] at e1
  unfold m__law_tasks_of
  refine fnD_new (M' := [.lst ((taskL es L).map rowD)]) ?_ (noref_tasks _)
  unfold g__law_tasks_of N__law_tasks_of
  refine (run_seq (ρ1 := [some (graD p es), some (ordN L), some (laterD es L), none, none, none]) (M1 := M0) ?_).trans ?_
  · simp -implicitDefEqProofs [startE, sE, Mo.bnd, Mo.ret, u1, u2, e0]
  refine (run_seq (ρ1 := LO p es L (laterD es L) M0.length none none) (M1 := M0 ++ [.lst []]) ?_).trans ?_
  · have e5 : newL [] M0 = some (.ok (.ref M0.length), M0 ++ [.lst []]) := rfl
    unfold LO
    simp -implicitDefEqProofs [sE, Mo.bnd, Mo.ret, e5]
  refine (run_seq (ρ1 := LO p es L (laterD es L) M0.length pt mn) (M1 := M0 ++ [.lst ((taskL es L).map rowD)]) ?_).trans ?_
  · have it : itD (ordD L) = .ret ⟨L.map eN, none⟩ := rfl
    simp only [for_app]
    unfold LO at e1 ⊢
    simp -implicitDefEqProofs [u1, it]
    exact e1
  · have tl : tupleD (.ref M0.length) (M0 ++ [.lst ((taskL es L).map rowD)]) = some (.ok (tasksD (taskL es L)), M0 ++ [.lst ((taskL es L).map rowD)]) := by
      simp [tupleD, seqB, res, tasksD]
    unfold LO
    simp -implicitDefEqProofs [sE, Mo.bnd, Mo.ret, tl]
end K67
namespace K67
open DL
theorem alike_run : ∀ (k : Nat) (d : D), tI d = true → dpt d < k → m__law_alike k [d, d] = .ret (.bl true)
  | 0, _, _, h => absurd h (Nat.not_lt_zero _)
  | k + 1, d, h, hd => by
    cases d with
    | int i =>
      refine fnD_pr (fun M => ?_) rfl
      unfold g__law_alike N__law_alike
      simp -implicitDefEqProofs [startE]
    | non =>
      refine fnD_pr (fun M => ?_) rfl
      have e : isD .non .non = .ret (.bl true) := rfl
      unfold g__law_alike N__law_alike
      simp -implicitDefEqProofs [startE, e]
    | tup l =>
      refine fnD_pr (fun M => ?_) rfl
      have e0 : isD (.tup l) .non = .ret (.bl false) := rfl
      unfold g__law_alike N__law_alike
      rw [tI, Bool.and_eq_true] at h
      obtain ⟨hll, h⟩ := h
      have hll := of_decide_eq_true hll
      simp -implicitDefEqProofs [startE]
      rw [rngD1_nat (by omega)]
      simp -implicitDefEqProofs
      rw [comp_if (p := fun _ => false) (f := fun k : Nat => D.int k)]
      · rw [filter_none, List.map_nil, cmp_lst (by simp)]
        simp -implicitDefEqProofs [eq_nil]
      · intro i hi
        rw [List.mem_range] at hi
        have e : subD' (.tup l) (.int i) = .ret l[i] := sub_tup (atD_nat (List.getElem?_eq_getElem hi))
        have ht : tI l[i] = true := tIL_all.mp h _ (List.getElem_mem hi)
        have hdp : dpt l[i] < k := by
          have := dpt_le (List.getElem_mem hi)
          rw [dpt] at hd
          omega
        have z := alike_run k l[i] ht hdp
        simp -implicitDefEqProofs [turn1, wipeR, e, z]
    | lst l =>
      refine fnD_pr (fun M => ?_) rfl
      unfold g__law_alike N__law_alike
      rw [tI, Bool.and_eq_true] at h
      obtain ⟨hll, h⟩ := h
      have hll := of_decide_eq_true hll
      simp -implicitDefEqProofs [startE]
      rw [rngD1_nat (by omega)]
      simp -implicitDefEqProofs
      rw [comp_if (p := fun _ => false) (f := fun k : Nat => D.int k)]
      · rw [filter_none, List.map_nil, cmp_lst (by simp)]
        simp -implicitDefEqProofs [eq_nil]
      · intro i hi
        rw [List.mem_range] at hi
        have e : subD' (.lst l) (.int i) = .ret l[i] := sub_lst (atD_nat (List.getElem?_eq_getElem hi))
        have ht : tI l[i] = true := tIL_all.mp h _ (List.getElem_mem hi)
        have hdp : dpt l[i] < k := by
          have := dpt_le (List.getElem_mem hi)
          rw [dpt] at hd
          omega
        have z := alike_run k l[i] ht hdp
        simp -implicitDefEqProofs [turn1, wipeR, e, z]
    | _ => cases h
theorem tI_row (t : Row) : tI (rowD t) = true ∧ dpt (rowD t) ≤ 1 := by
  obtain ⟨a, b, c⟩ := t
  cases a with
  | none => exact ⟨rfl, by show 1 ≤ 1; decide⟩
  | some q => exact ⟨rfl, by show 1 ≤ 1; decide⟩
theorem tI_tasks (ts : List Row) (h : ts.length ≤ 900) : tI (tasksD ts) = true ∧ dpt (tasksD ts) ≤ 2 := by
  constructor
  · unfold tasksD
    rw [tI, Bool.and_eq_true]
    refine ⟨by rw [List.length_map]; exact decide_eq_true h, tIL_all.mpr fun d hd => ?_⟩
    obtain ⟨t, _, rfl⟩ := List.mem_map.mp hd
    exact (tI_row t).1
  · unfold tasksD
    rw [dpt]
    have : dptL (ts.map rowD) ≤ 1 := dptL_le fun d hd => by
      obtain ⟨t, _, rfl⟩ := List.mem_map.mp hd
      exact (tI_row t).2
    omega
theorem alike_tasks (ts : List Row) (h : ts.length ≤ 900) : m__law_alike 9 [tasksD ts, tasksD ts] = .ret (.bl true) :=
  alike_run 9 _ (tI_tasks ts h).1 (by have := (tI_tasks ts h).2; omega)
def atm : D → Bool
  | .int _ | .bl _ | .non | .str _ => true
  | _ => false
def isNum (d : D) (a b : Int) : Bool := match d with
  | .int i => decide (a ≤ i) && decide (i ≤ b)
  | _ => false
theorem isNum_run {d : D} (h : atm d = true) (a b : Int) : m_is_number [d, .int a, .int b] = .ret (.bl (isNum d a b)) := by
  cases d with
  | int i => exact is_number_int i a b
  | bl x => exact is_number_bl x a b
  | non => exact is_number_non a b
  | str x => exact is_number_str x a b
  | _ => cases h
def isNon : D → Bool
  | .non => true
  | _ => false
theorem isnon_run {d : D} (h : atm d = true) : isnD d .non = .ret (.bl (!isNon d)) := by
  cases d with
  | int i => rfl
  | bl x => rfl
  | non => rfl
  | str x => rfl
  | _ => cases h
def numLe (b c : D) : Bool := match b with
  | .int i => isNum c 0 i
  | _ => false
/-- a row at k of n -/
def rowOk (n k : Int) : D → Bool
  | .tup [a, b, c] => (isNon a || isNum a (k + 1) (n - 1)) && isNum b 0 1000000 && numLe b c
  | _ => false
/-- what may stand for a row -/
def rowT : D → Bool
  | .tup [a, b, c] => atm a && atm b && atm c
  | .tup _ => true
  | .int _ | .bl _ | .non | .str _ | .lst _ => true
  | _ => false
def AR (l : List D) (a b : Option D) : En := [some (.tup l), a, b]
theorem row_run {l : List D} {k : Nat} {d : D} (h : rowT d = true) (M : Mem) : l1_are_tasks (AR l (some (.int k)) (some d)) M = if rowOk l.length k d then some (.nx (AR l (some (.int k)) (some d)), M) else some (.ret (.bl false), M) := by
  cases d with
  | int i =>
    show _ = (some (Fl.ret (.bl false), M) : Option (Fl × Mem))
    unfold l1_are_tasks AR; simp -implicitDefEqProofs
  | bl x =>
    show _ = (some (Fl.ret (.bl false), M) : Option (Fl × Mem))
    unfold l1_are_tasks AR; simp -implicitDefEqProofs
  | non =>
    show _ = (some (Fl.ret (.bl false), M) : Option (Fl × Mem))
    unfold l1_are_tasks AR; simp -implicitDefEqProofs
  | str x =>
    show _ = (some (Fl.ret (.bl false), M) : Option (Fl × Mem))
    unfold l1_are_tasks AR; simp -implicitDefEqProofs
  | lst x =>
    show _ = (some (Fl.ret (.bl false), M) : Option (Fl × Mem))
    unfold l1_are_tasks AR; simp -implicitDefEqProofs
  | tup r =>
    match r, h with
    | [], _ =>
      show _ = (some (Fl.ret (.bl false), M) : Option (Fl × Mem))
      unfold l1_are_tasks AR; simp -implicitDefEqProofs
    | [a], _ =>
      show _ = (some (Fl.ret (.bl false), M) : Option (Fl × Mem))
      unfold l1_are_tasks AR; simp -implicitDefEqProofs
    | [a, b], _ =>
      show _ = (some (Fl.ret (.bl false), M) : Option (Fl × Mem))
      unfold l1_are_tasks AR; simp -implicitDefEqProofs
    | a :: b :: c :: e :: r, _ =>
      have : rowOk l.length k (.tup (a :: b :: c :: e :: r)) = false := rfl
      rw [this]
      have h1 : ¬ ((r.length : Int) + 1 + 1 + 1 + 1 = 3) := by omega
      unfold l1_are_tasks AR; simp -implicitDefEqProofs [h1]
    | [a, b, c], h =>
      have h : (atm a && atm b && atm c) = true := h
      simp only [Bool.and_eq_true] at h
      obtain ⟨⟨ha, hb⟩, hc⟩ := h
      have s0 : subD' (.tup [a, b, c]) (.int 0) = .ret a := sub_tup (atD_nat (n := 0) rfl)
      have s1 : subD' (.tup [a, b, c]) (.int 1) = .ret b := sub_tup (atD_nat (n := 1) rfl)
      have s2 : subD' (.tup [a, b, c]) (.int 2) = .ret c := sub_tup (atD_nat (n := 2) rfl)
      have e1 := isnon_run ha
      have e2 := isNum_run ha ((k : Int) + 1) ((l.length : Int) - 1)
      have e3 := isNum_run hb 0 1000000
      have e : rowOk l.length k (.tup [a, b, c]) = ((isNon a || isNum a (k + 1) (l.length - 1)) && isNum b 0 1000000 && numLe b c) := rfl
      rw [e]
      have hb3 : isNum b 0 1000000 = true → ∃ i, b = .int i := by
        intro q
        cases b with
        | int i => exact ⟨i, rfl⟩
        | _ => cases q
      unfold l1_are_tasks AR
      cases n1 : isNon a with
      | true =>
        cases n3 : isNum b 0 1000000 with
        | false =>
          simp -implicitDefEqProofs [s0, e1, n1, s1, e3, n3]
        | true =>
          obtain ⟨i, rfl⟩ := hb3 n3
          have e4 := isNum_run hc 0 i
          rw [show numLe (.int i) c = isNum c 0 i from rfl]
          cases n4 : isNum c 0 i with
          | true => simp -implicitDefEqProofs [s0, e1, n1, s1, e3, n3, s2, e4, n4]
          | false => simp -implicitDefEqProofs [s0, e1, n1, s1, e3, n3, s2, e4, n4]
      | false =>
        cases n2 : isNum a (k + 1) (l.length - 1) with
        | false => simp -implicitDefEqProofs [s0, e1, n1, e2, n2]
        | true =>
          cases n3 : isNum b 0 1000000 with
          | false =>
            simp -implicitDefEqProofs [s0, e1, n1, e2, n2, s1, e3, n3]
          | true =>
            obtain ⟨i, rfl⟩ := hb3 n3
            have e4 := isNum_run hc 0 i
            rw [show numLe (.int i) c = isNum c 0 i from rfl]
            cases n4 : isNum c 0 i with
            | true => simp -implicitDefEqProofs [s0, e1, n1, e2, n2, s1, e3, n3, s2, e4, n4]
            | false => simp -implicitDefEqProofs [s0, e1, n1, e2, n2, s1, e3, n3, s2, e4, n4]
  | _ => cases h
def rowsOk (n : Int) : Nat → List D → Bool
  | _, [] => true
  | k, d :: r => rowOk n k d && rowsOk n (k + 1) r
theorem rows_run {l : List D} {M : Mem} {H : D → En → Mo En} (hH : ∀ (k : Nat) (d : D) (a b : Option D), H (.tup [.int k, d]) (AR l a b) M = some (.ok (AR l (some (.int k)) (some d)), M)) : ∀ (r : List D) (k : Nat) (a b : Option D), (∀ d ∈ r, rowT d = true) →
    ∃ a' b', forL none H l1_are_tasks (r.zipIdx k |>.map fun p => .tup [.int p.2, p.1]) (AR l a b) M = if rowsOk l.length k r then some (.nx (AR l a' b'), M) else some (.ret (.bl false), M)
  | [], k, a, b, _ => ⟨a, b, by simp [rowsOk]⟩
  | d :: r, k, a, b, h => by
    rw [List.zipIdx_cons, List.map_cons, forL_cons, hH, assK_ok, row_run (h d List.mem_cons_self)]
    obtain ⟨a', b', e⟩ := rows_run hH r (k + 1) (some (.int k)) (some d) fun x hx => h x (List.mem_cons_of_mem _ hx)
    refine ⟨a', b', ?_⟩
    unfold rowsOk
    cases q : rowOk l.length k d with
    | true =>
      rw [if_pos rfl, Bool.true_and]
      exact e
    | false =>
      rw [if_neg (by simp), Bool.false_and, if_neg (by simp)]
      rfl
theorem enL_zip (l : List D) : enL l = l.zipIdx.map fun p => .tup [.int p.2, p.1] := by
  apply List.ext_getElem?
  intro i
  by_cases h : i < l.length
  · rw [enL_get (List.getElem?_eq_getElem h), List.getElem?_map, List.getElem?_zipIdx, List.getElem?_eq_getElem h]
    simp
  · rw [List.getElem?_eq_none (by rw [enL_len]; omega), List.getElem?_eq_none (by simp; omega)]
theorem enum_tup (l : List D) : enumD [.tup l] = .ret ⟨l.zipIdx.map fun p => .tup [.int p.2, p.1], none⟩ := by
  rw [← enL_zip]; rfl
theorem are_tup {l : List D} (h : ∀ d ∈ l, rowT d = true) : m_are_tasks [.tup l] = .ret (.bl (decide (l.length ≤ 60) && rowsOk l.length 0 l)) := by
  refine fnD_pr (fun M => ?_) rfl
  unfold g_are_tasks N_are_tasks
  by_cases c : l.length ≤ 60
  · have c' : ¬ (60 : Int) < l.length := by omega
    obtain ⟨a', b', e⟩ := rows_run (l := l) (M := M) (H := fun d ρ => .bnd (itemsT 2 d) fun ds => (gConsD (fun d ρ => .ret (ρ.set 1 (some d))) (gConsD (fun d ρ => .ret (ρ.set 2 (some d))) gNilD)) ds ρ) (fun k d a b => by unfold AR; simp -implicitDefEqProofs; rfl) l 0 none none h
    unfold AR at e
    rw [decide_eq_true c, Bool.true_and]
    cases q : rowsOk l.length 0 l with
    | true =>
      rw [q, if_pos rfl] at e
      simp -implicitDefEqProofs [startE, c', enum_tup, e]
    | false =>
      rw [q, if_neg (by simp)] at e
      simp -implicitDefEqProofs [startE, c', enum_tup, e]
  · have c' : (60 : Int) < l.length := by omega
    simp -implicitDefEqProofs [startE, c', c]
theorem are_non : m_are_tasks [.non] = .ret (.bl false) := by
  refine fnD_pr (fun M => ?_) rfl
  unfold g_are_tasks N_are_tasks
  simp -implicitDefEqProofs [startE]
theorem are_int (i : Int) : m_are_tasks [.int i] = .ret (.bl false) := by
  refine fnD_pr (fun M => ?_) rfl
  unfold g_are_tasks N_are_tasks
  simp -implicitDefEqProofs [startE]
theorem are_lst (l : List D) : m_are_tasks [.lst l] = .ret (.bl false) := by
  refine fnD_pr (fun M => ?_) rfl
  unfold g_are_tasks N_are_tasks
  simp -implicitDefEqProofs [startE]
end K67
namespace K67
open DL
variable {M0 : Mem} {p : Nat} {es : List (Nat × Nat)} {L : List Nat} {ts : List Row}
structure TK (ts : List Row) : Prop where
  len : ts.length ≤ 60
  par : ∀ i (h : i < ts.length) q, ts[i].1 = some q → i + 1 ≤ q ∧ q < ts.length
  fro : ∀ t ∈ ts, t.2.1 ≤ 1000000 ∧ t.2.2 ≤ t.2.1
theorem rowsOk_iff {n : Int} : ∀ {l : List D} {k : Nat}, (∀ i (h : i < l.length), rowOk n ((k + i : Nat) : Int) l[i] = true) → rowsOk n k l = true
  | [], _, _ => rfl
  | d :: r, k, h => by
    unfold rowsOk
    have h0 := h 0 (by simp)
    have hr := rowsOk_iff (l := r) (k := k + 1) fun i hi => by
      have := h (i + 1) (by simp; omega)
      rw [show k + 1 + i = k + (i + 1) by omega]
      exact this
    rw [hr, Bool.and_true]
    exact h0
theorem atm_opt (a : Option Nat) : atm (optD a) = true := by cases a <;> rfl
theorem rowT_row (t : Row) : rowT (rowD t) = true := by
  show (atm (optD t.1) && true && true) = true
  rw [atm_opt]; rfl
theorem are_run (h : TK ts) : m_are_tasks [tasksD ts] = .ret (.bl true) := by
  unfold tasksD
  rw [are_tup (fun d hd => by obtain ⟨t, _, rfl⟩ := List.mem_map.mp hd; exact rowT_row t)]
  rw [List.length_map]
  have e1 : decide (ts.length ≤ 60) = true := decide_eq_true h.len
  have e2 : rowsOk (ts.length : Nat) 0 (ts.map rowD) = true := by
    refine rowsOk_iff fun i hi => ?_
    rw [List.length_map] at hi
    rw [List.getElem_map, Nat.zero_add]
    obtain ⟨t, et⟩ : ∃ t, ts[i] = t := ⟨_, rfl⟩
    rw [et]
    have hf := h.fro t (et ▸ List.getElem_mem hi)
    have hp := h.par i hi
    rw [et] at hp
    have e3 : isNum (.int (t.2.1 : Nat)) 0 1000000 = true := by
      unfold isNum
      simp; omega
    have e4 : numLe (.int (t.2.1 : Nat)) (.int (t.2.2 : Nat)) = true := by
      unfold numLe isNum
      simp; omega
    show ((isNon (optD t.1) || isNum (optD t.1) (i + 1) (ts.length - 1)) && isNum (.int (t.2.1 : Nat)) 0 1000000 && numLe (.int (t.2.1 : Nat)) (.int (t.2.2 : Nat))) = true
    rw [e3, e4]
    cases hq : t.1 with
    | none => rfl
    | some q =>
      have := hp q hq
      have : isNum (optD (some q)) (i + 1) (ts.length - 1) = true := by
        unfold optD isNum
        simp; omega
      rw [this]
      simp
  rw [e1, e2]
  rfl
theorem task_TK (hp : p ≤ 9) (ok : ∀ a ∈ es, a.1 < a.2 ∧ a.2 < p) (o : Ord p L) : TK (taskL es L) := by
  have hl : (taskL es L).length = p := by unfold taskL; rw [List.length_map, o.len]
  refine ⟨by omega, ?_, ?_⟩
  · intro i hi q hq
    have hiL : i < L.length := by rw [o.len]; omega
    have e : (taskL es L)[i] = rowOf es L L[i] := List.getElem_map ..
    rw [e] at hq
    have hv := o.lt _ (List.getElem_mem hiL)
    have hpl : pl L L[i] = i := pl_at o (List.getElem?_eq_getElem hiL)
    have hq : (latv es L L[i]).head?.map (pl L) = some q := hq
    cases hlv : latv es L L[i] with
    | nil => rw [hlv] at hq; cases hq
    | cons u r =>
      rw [hlv] at hq
      have hq := Option.some.inj hq
      have hu : u ∈ latv es L L[i] := by rw [hlv]; exact List.mem_cons_self
      have h1 := ((latv_mem ok o hv).mp hu).2
      have h2 := pl_lt o ((latv_len ok o hv).2 u hu)
      rw [hl]
      omega
  · intro t ht
    unfold taskL at ht
    obtain ⟨v, hv, rfl⟩ := List.mem_map.mp ht
    have h1 := (latv_len ok o (o.lt v hv)).1
    obtain ⟨n, en⟩ : ∃ n, (latv es L v).length = n := ⟨_, rfl⟩
    show ((latv es L v).length + 1) * ((latv es L v).length + 1) ≤ 1000000 ∧ (latv es L v).length * (latv es L v).length ≤ ((latv es L v).length + 1) * ((latv es L v).length + 1)
    rw [en] at h1 ⊢
    have h2 : (n + 1) * (n + 1) ≤ 9 * 9 := Nat.mul_le_mul (by omega) (by omega)
    have h3 : n * n ≤ (n + 1) * (n + 1) := Nat.mul_le_mul (by omega) (by omega)
    omega
def parAt (ts : List Row) (j : Nat) : Option Nat := (ts[j]?).bind (·.1)
theorem parAt_get {j : Nat} (h : j < ts.length) : parAt ts j = ts[j].1 := by
  unfold parAt
  rw [List.getElem?_eq_getElem h]; rfl
def chl (ts : List Row) (i q : Nat) : List Nat := (List.range i).filter fun j => decide (parAt ts j = some q)
def chD (ts : List Row) (i : Nat) : List D := (List.range ts.length).map fun q => ordD (chl ts i q)
def topL (ts : List Row) : List Nat := (List.range ts.length).filter fun j => decide (parAt ts j = none)
theorem chl_len (i q : Nat) : (chl ts i q).length ≤ i := by
  unfold chl
  have := List.length_filter_le (fun j => decide (parAt ts j = some q)) (List.range i)
  rw [List.length_range] at this
  exact this
theorem chl_succ (i q : Nat) : chl ts (i + 1) q = if parAt ts i = some q then chl ts i q ++ [i] else chl ts i q := by
  unfold chl
  rw [List.range_succ, List.filter_append]
  by_cases h : parAt ts i = some q
  · rw [if_pos h]; simp [h]
  · rw [if_neg h]; simp [h]
theorem chD_len (i : Nat) : (chD ts i).length = ts.length := by simp [chD]
theorem chD_set {i q : Nat} (h : parAt ts i = some q) : (chD ts i).set q (ordD (chl ts i q ++ [i])) = chD ts (i + 1) := by
  unfold chD
  apply List.ext_getElem?
  intro j
  by_cases hj : j < ts.length
  · by_cases e : q = j
    · subst e
      rw [List.getElem?_set_self (by simpa using hj), List.getElem?_map, List.getElem?_range hj, Option.map_some, chl_succ, if_pos h]
    · rw [List.getElem?_set_ne e, List.getElem?_map, List.getElem?_map, List.getElem?_range hj, Option.map_some, Option.map_some, chl_succ, if_neg (by rw [h]; intro q'; exact e (Option.some.inj q'))]
  · rw [List.getElem?_eq_none (by simp; omega), List.getElem?_eq_none (by simp; omega)]
theorem chD_none {i : Nat} (h : parAt ts i = none) : chD ts (i + 1) = chD ts i := by
  unfold chD
  apply List.map_congr_left
  intro q _
  rw [chl_succ, if_neg (by rw [h]; intro q; cases q)]
def CR (ts : List Row) (n : Nat) (u a b : Option D) : En := [some (tasksD ts), u, some (.ref n), a, b]
theorem child_step (hk : TK ts) {j : Nat} (hj : j < ts.length) {u : Option D} :
    l1_children_in (CR ts M0.length u (some (.int j)) (some (optD ts[j].1))) (M0 ++ [.lst (chD ts j)]) = some (.nx (CR ts M0.length u (some (.int j)) (some (optD ts[j].1))), M0 ++ [.lst (chD ts (j + 1))]) := by
  have hpa := parAt_get hj
  have hkl := hk.len
  cases hq : ts[j].1 with
  | none =>
    rw [hq] at hpa
    rw [chD_none hpa]
    have e : isnD .non .non = .ret (.bl false) := rfl
    unfold l1_children_in CR optD
    simp -implicitDefEqProofs [e]
  | some q =>
    rw [hq] at hpa
    have hlt := (hk.par j hj q hq).2
    have e : isnD (.int q) .non = .ret (.bl true) := rfl
    have s1 : subD' (.ref M0.length) (.int q) (M0 ++ [.lst (chD ts j)]) = some (.ok (ordD (chl ts j q)), M0 ++ [.lst (chD ts j)]) := sub_ref last_at (by unfold chD; rw [List.getElem?_map, List.getElem?_range hlt]; rfl)
    have s2 : starD (ordD (chl ts j q)) = .ret ((chl ts j q).map eN) := rfl
    have t2 : tupD ((chl ts j q).map eN ++ [.int j]) = .ret (ordD (chl ts j q ++ [j])) := by
      rw [tup_ok (by have := chl_len (ts := ts) j q; rw [PySem.sizeLine_eq]; simp; omega)]
      unfold ordD
      rw [List.map_append]
      rfl
    have st := store_lst (ρ := CR ts M0.length u (some (.int j)) (some (.int q))) (v := ordD (chl ts j q ++ [j])) (last_at (M := M0) (o := .lst (chD ts j))) (r := q) (by rw [chD_len]; exact hlt)
    rw [last_set, chD_set hpa] at st
    unfold l1_children_in CR optD
    unfold CR at st
    simp -implicitDefEqProofs [e]
    refine (sE_M (a := ordD (chl ts j q ++ [j])) (M1 := M0 ++ [.lst (chD ts j)]) ?_).trans ?_
    · refine (bnd_M (a := (chl ts j q).map eN ++ [.int j]) (M1 := M0 ++ [.lst (chD ts j)]) ?_).trans ?_
      · refine (bnd_M (a := (chl ts j q).map eN) (M1 := M0 ++ [.lst (chD ts j)]) ?_).trans ?_
        · refine (bnd_M s1).trans ?_
          rw [s2]; rfl
        · rfl
      · rw [t2]; rfl
    · unfold s0
      rw [st]
theorem children_run (hk : TK ts) : m_children_in [tasksD ts] M0 = some (.ok (.tup (chD ts ts.length)), M0) := by
  have hkl := hk.len
  obtain ⟨ρ1, M1, e1, u, a, b, rfl, rfl⟩ := forL_ind (h := fun d ρ => .bnd (itemsT 2 d) fun ds => (gConsD (fun d ρ => .ret (ρ.set 3 (some d))) (gConsD (fun d ρ => .bnd (itemsT 3 d) fun ds => (gConsD (fun d ρ => .ret (ρ.set 4 (some d))) (gConsD (fun d ρ => .ret (ρ.set 1 (some d))) (gConsD (fun d ρ => .ret (ρ.set 1 (some d))) gNilD))) ds ρ) gNilD)) ds ρ) (body := l1_children_in)
    (fun i ρ M => ∃ (u a b : Option D), ρ = CR ts M0.length u a b ∧ M = M0 ++ [.lst (chD ts i)])
    ((ts.map rowD).zipIdx.map fun p => .tup [.int p.2, p.1]) 0 (CR ts M0.length none none none) (M0 ++ [.lst (chD ts 0)]) ⟨none, none, none, rfl, rfl⟩ (by
      rintro i dd ρ M hj ⟨u, a, b, rfl, rfl⟩
      rw [Nat.zero_add] at *
      obtain ⟨hj', hd⟩ := List.getElem?_eq_some_iff.mp hj
      have hi : i < ts.length := by simpa using hj'
      simp only [List.getElem_map, List.getElem_zipIdx, Nat.zero_add] at hd
      subst hd
      refine ⟨CR ts M0.length (some (.int (ts[i].2.2 : Nat))) (some (.int i)) (some (optD ts[i].1)), M0 ++ [.lst (chD ts i)], ?_, _, _, .inl (child_step hk hi), _, _, _, rfl, rfl⟩
      unfold CR rowD
      simp -implicitDefEqProofs
      rfl)
  rw [List.length_map, List.length_zipIdx, List.length_map, Nat.zero_add] at e1
  unfold m_children_in
  refine fnD_new (M' := [.lst (chD ts ts.length)]) ?_ (noref_tup (noref_map (fun q => noref_ord _) _))
  unfold g_children_in N_children_in
  refine (run_seq (ρ1 := CR ts M0.length none none none) (M1 := M0 ++ [.lst (chD ts 0)]) ?_).trans ?_
  · refine (sE_M (a := .ref M0.length) (M1 := M0 ++ [.lst (chD ts 0)]) ?_).trans rfl
    refine (bnd_M (a := ⟨ts.map rowD, none⟩) (M1 := M0) rfl).trans ?_
    have : chD ts 0 = ts.map fun _ => D.tup [] := by
      unfold chD
      apply List.ext_getElem
      · simp
      · intro i h1 h2
        rw [List.getElem_map, List.getElem_map]
        rfl
    rw [this]
    refine cmp_lstT (M' := M0) (comp_oneM (g := rowD) (f := fun _ => D.tup []) fun t _ => ?_) (by rw [List.length_map]; omega)
    have t0 : tupD [] = .ret (.tup []) := tup_ok (by rw [PySem.sizeLine_eq]; simp)
    simp -implicitDefEqProofs [turn1, wipeR, one', t0]
    rfl
  refine (run_seq (ρ1 := CR ts M0.length u a b) (M1 := M0 ++ [.lst (chD ts ts.length)]) ?_).trans ?_
  · have en := enum_tup (ts.map rowD)
    simp only [for_app]
    unfold CR tasksD at e1 ⊢
    simp -implicitDefEqProofs [en]
    exact e1
  · have tl : tupleD (.ref M0.length) (M0 ++ [.lst (chD ts ts.length)]) = some (.ok (.tup (chD ts ts.length)), M0 ++ [.lst (chD ts ts.length)]) := by
      simp [tupleD, seqB, res]
    unfold CR
    simp -implicitDefEqProofs [sE, Mo.bnd, Mo.ret, tl]
theorem sub_tasks {j : Nat} (h : j < ts.length) : subD' (tasksD ts) (.int j) = .ret (rowD ts[j]) := by
  refine sub_tup (atD_nat ?_)
  rw [List.getElem?_map, List.getElem?_eq_getElem h]
  rfl
theorem row_0 (t : Row) : subD' (rowD t) (.int 0) = .ret (optD t.1) := sub_tup (atD_nat (n := 0) rfl)
theorem len_tasks : lenD (tasksD ts) = .ret (.int ts.length) := by
  have := len_tup (ts.map rowD)
  rw [List.length_map] at this
  exact this
theorem opt_eq (a : Option Nat) (q : Nat) : eqD (optD a) (.int q) = .ret (.bl (decide (a = some q))) := by
  cases a with
  | none => rw [eqD_pl ⟨rfl, by decide⟩ ⟨rfl, Nat.zero_le _⟩]; simp [optD]
  | some r =>
    show eqD (.int r) (.int q) = _
    rw [eq_int]
    congr 3
    apply propext
    constructor
    · intro h; congr 1; omega
    · intro h; have := Option.some.inj h; omega
theorem opt_is (a : Option Nat) : isD (optD a) .non = .ret (.bl (decide (a = none))) := by
  cases a <;> rfl
theorem lchildren_run (hk : TK ts) : m__law_children [tasksD ts] = .ret (.lst (chD ts ts.length)) := by
  have hkl := hk.len
  refine fnD_pr (fun M => ?_) (noref_lst (noref_map (fun q => noref_ord _) _))
  have rn := rngD1_nat (n := ts.length) (by omega)
  unfold g__law_children N__law_children
  simp -implicitDefEqProofs [startE, len_tasks]
  rw [rn]
  simp -implicitDefEqProofs
  rw [comp_one (f := fun q : Nat => ordD (chl ts ts.length q))]
  · rw [cmp_lst (by simp; omega)]
    rfl
  · intro q _
    simp -implicitDefEqProofs [turn1, wipeR, one', len_tasks]
    rw [rn]
    simp -implicitDefEqProofs
    rw [comp_if (p := fun j => decide (parAt ts j = some q)) (f := fun j : Nat => D.int j)]
    · have : (((List.range ts.length).filter fun j => decide (parAt ts j = some q)).map fun j : Nat => D.int j) = (chl ts ts.length q).map eN := rfl
      rw [this, cmp_lst (by have := chl_len (ts := ts) ts.length q; simp; omega)]
      simp -implicitDefEqProofs [ordD]
    · intro j hj
      rw [List.mem_range] at hj
      have hpa := parAt_get hj
      simp -implicitDefEqProofs [turn1, wipeR, sub_tasks hj, row_0, opt_eq, one', hpa]
      cases decide (ts[j].1 = some q) <;> rfl
theorem tops_run (hk : TK ts) : m_tops_in [tasksD ts] = .ret (ordD (topL ts)) := by
  have hkl := hk.len
  refine fnD_pr (fun M => ?_) (noref_ord _)
  have en : enumD [tasksD ts] = .ret ⟨(List.range ts.length).map fun i => .tup [.int (i : Nat), rowD (ts.getD i (none, 0, 0))], none⟩ := by
    unfold tasksD
    rw [enum_tup]
    congr 2
    apply List.ext_getElem
    · simp
    · intro i h1 h2
      have hi : i < ts.length := by simpa using h2
      simp only [List.getElem_map, List.getElem_zipIdx, List.getElem_range, Nat.zero_add]
      rw [List.getD_eq_getElem?_getD, List.getElem?_eq_getElem hi]
      rfl
  unfold g_tops_in N_tops_in
  simp -implicitDefEqProofs [startE, en]
  rw [comp_if (p := fun j => decide (parAt ts j = none)) (f := fun j : Nat => D.int j)]
  · have : (((List.range ts.length).filter fun j => decide (parAt ts j = none)).map fun j : Nat => D.int j) = (topL ts).map eN := rfl
    rw [this, cmp_lst (by have := List.length_filter_le (fun j => decide (parAt ts j = none)) (List.range ts.length); rw [List.length_range] at this; unfold topL; simp; omega)]
    simp -implicitDefEqProofs [ordD]
  · intro j hj
    rw [List.mem_range] at hj
    have hpa := parAt_get hj
    have hg : ts[j]?.getD (none, 0, 0) = ts[j] := by rw [List.getElem?_eq_getElem hj]; rfl
    simp -implicitDefEqProofs [turn1, wipeR, row_0, opt_is, one', hpa]
    rw [hg]
    cases decide (ts[j].1 = none) <;> rfl
end K67
namespace K67
open DL
def rX (X : Mem) (ts : List Row) : Mem := X ++ [.lst (ts.map rowD)]
theorem rX_nr {X : Mem} (hX : NR X) (ts : List Row) : NR (rX X ts) := by
  intro o ho
  rcases List.mem_append.mp ho with h | h
  · exact hX o h
  · rw [List.mem_singleton] at h
    rw [h]
    exact noref_map noref_row ts
def DR (X : Mem) (most cells many : Nat) (a b c : Option D) : En := [some (.ref 1), some (.int most), some (.int cells), some (.int many), some (.ref (2 + X.length)), a, b, c]
theorem dt_step {X : Mem} (hX : NR X) {many j : Nat} {ts : List Row} {L0 xs : List Int} {b c : Option D} (hm : many ≤ 9) (hj : j < many) (hts : ts.length ≤ 20) :
    ∃ (t : Row) (ys : List Int) (b' c' : Option D), l1__law_tasks (DR X 9 12 many (some (.int j)) b c) (dX (rX X ts) L0 xs) = some (.nx (DR X 9 12 many (some (.int j)) b' c'), dX (rX X (ts ++ [t])) L0 ys) ∧
      (∀ q, t.1 = some q → j + 1 ≤ q ∧ q < many) ∧ t.2.1 ≤ 1000000 ∧ t.2.2 ≤ t.2.1 := by
  -- the parent
  obtain ⟨q, ys, e1, hq⟩ : ∃ (q : Nat) (ys : List Int), (∀ (f : D → Mem → Option (Fl × Mem)), sE (.bnd (.bnd (.bnd (.bnd (getV (DR X 9 12 many (some (.int j)) b c) 5) fun a => .bnd (.ret (.int 1)) fun b => addD a b) fun a => .bnd (getV (DR X 9 12 many (some (.int j)) b c) 3) fun b => ltD a b) boolD) fun z => cond z (.bnd (.bnd (getV (DR X 9 12 many (some (.int j)) b c) 5) fun a => .bnd (.ret (.int 1)) fun b => addD a b) fun a => .bnd (.bnd (.bnd (getV (DR X 9 12 many (some (.int j)) b c) 0) fun d => .bnd (.bnd (.bnd (.bnd (.ret (.int 3)) fun d => .bnd (.bnd (.bnd (getV (DR X 9 12 many (some (.int j)) b c) 3) fun a => .bnd (getV (DR X 9 12 many (some (.int j)) b c) 5) fun b => subD a b) fun d => .bnd (.ret []) fun ds => .ret (d :: ds)) fun ds => .ret (d :: ds)) (arg2 minD2)) fun d => .bnd (.ret []) fun ds => .ret (d :: ds)) fun ds => .ret (d :: ds)) (m__law_take)) fun b => addD a b) (getV (DR X 9 12 many (some (.int j)) b c) 3)) (DR X 9 12 many (some (.int j)) b c) f (dX (rX X ts) L0 xs) = f (.int q) (dX (rX X ts) L0 ys)) ∧ j + 1 ≤ q := by
    by_cases h : j + 1 < many
    · have h' : (j : Int) + 1 < many := by omega
      have hb : (0 : Int) < (if (many : Int) - j < 3 then (many : Int) - j else 3) := by split <;> omega
      obtain ⟨v, ys, e, hv⟩ := take_nat (rX_nr hX ts) L0 xs hb
      refine ⟨j + 1 + v, ys, fun f => ?_, by omega⟩
      refine sE_M ?_
      unfold DR
      simp -implicitDefEqProofs [h']
      refine (bnd_M e).trans ?_
      rfl
    · have h' : ¬ (j : Int) + 1 < many := by omega
      refine ⟨many, xs, fun f => ?_, by omega⟩
      refine sE_M ?_
      unfold DR
      simp -implicitDefEqProofs [h']
      rfl
  -- the front
  obtain ⟨v, zs, e2, hv⟩ := take_nat (rX_nr hX ts) L0 ys (b := 12) (by decide)
  have hv' : v < 12 := by omega
  -- none, or the parent
  obtain ⟨a, ws, e3, ha⟩ : ∃ (a : Option Nat) (ws : List Int), (Mo.bnd (.bnd (.bnd (.bnd (getV (DR X 9 12 many (some (.int j)) (some (.int q)) (some (.int ((v + 1 : Nat) : Int)))) 6) fun a => .bnd (getV (DR X 9 12 many (some (.int j)) (some (.int q)) (some (.int ((v + 1 : Nat) : Int)))) 3) fun b => ltD a b) boolD) fun z => cond z (.bnd (.bnd (.bnd (.bnd (getV (DR X 9 12 many (some (.int j)) (some (.int q)) (some (.int ((v + 1 : Nat) : Int)))) 0) fun d => .bnd (.bnd (.ret (.int 8)) fun d => .bnd (.ret []) fun ds => .ret (d :: ds)) fun ds => .ret (d :: ds)) (m__law_take)) fun a => .bnd (.ret (.int 0)) fun b => gtD a b) boolD) (.ret false)) fun z => cond z (getV (DR X 9 12 many (some (.int j)) (some (.int q)) (some (.int ((v + 1 : Nat) : Int)))) 6) (.ret .non)) (dX (rX X ts) L0 zs) = some (.ok (optD a), dX (rX X ts) L0 ws) ∧ ∀ r, a = some r → j + 1 ≤ r ∧ r < many := by
    by_cases h : q < many
    · have h' : (q : Int) < many := by omega
      obtain ⟨u, ws, e, _⟩ := take_nat (rX_nr hX ts) L0 zs (b := 8) (by decide)
      by_cases hu : 0 < u
      · refine ⟨some q, ws, ?_, fun r hr => by have := Option.some.inj hr; omega⟩
        refine (bnd_M (a := true) (M1 := dX (rX X ts) L0 ws) ?_).trans ?_
        · unfold DR
          simp -implicitDefEqProofs [h', h]
          refine (bnd_M (a := .bl true) (M1 := dX (rX X ts) L0 ws) ?_).trans rfl
          refine (bnd_M e).trans ?_
          have hu' : decide ((0 : Int) < u) = true := by simp; omega
          rw [gt_int, hu']; rfl
        · rfl
      · refine ⟨none, ws, ?_, fun r hr => by cases hr⟩
        refine (bnd_M (a := false) (M1 := dX (rX X ts) L0 ws) ?_).trans ?_
        · unfold DR
          simp -implicitDefEqProofs [h', h]
          refine (bnd_M (a := .bl false) (M1 := dX (rX X ts) L0 ws) ?_).trans rfl
          refine (bnd_M e).trans ?_
          have hu' : decide ((0 : Int) < u) = false := by simp; omega
          rw [gt_int, hu']; rfl
        · rfl
    · have h' : ¬ (q : Int) < many := by omega
      refine ⟨none, zs, ?_, fun r hr => by cases hr⟩
      unfold DR
      simp -implicitDefEqProofs [h', h]
      rfl
  obtain ⟨w, us, e4, hw⟩ := take_nat (rX_nr hX ts) L0 ws (b := ((v + 1 : Nat) : Int) + 1) (by omega)
  refine ⟨(a, v + 1, w), us, some (.int q), some (.int ((v + 1 : Nat) : Int)), ?_, ha, by show v + 1 ≤ 1000000; omega, by show w ≤ v + 1; omega⟩
  unfold l1__law_tasks
  refine (run_seq (ρ1 := DR X 9 12 many (some (.int j)) (some (.int q)) c) (M1 := dX (rX X ts) L0 ys) ?_).trans ?_
  · exact e1 _
  refine (run_seq (ρ1 := DR X 9 12 many (some (.int j)) (some (.int q)) (some (.int ((v + 1 : Nat) : Int)))) (M1 := dX (rX X ts) L0 zs) ?_).trans ?_
  · refine (sE_M (a := .int ((v + 1 : Nat) : Int)) (M1 := dX (rX X ts) L0 zs) ?_).trans rfl
    refine (bnd_M (a := .int v) (M1 := dX (rX X ts) L0 zs) ?_).trans rfl
    exact e2
  · refine (sE_M (a := .non) (M1 := dX (rX X (ts ++ [(a, v + 1, w)])) L0 us) ?_).trans rfl
    refine (bnd_M (a := .ref (2 + X.length)) (M1 := dX (rX X ts) L0 zs) rfl).trans ?_
    have g : ∀ (ts : List Row) (ls : List Int), (dX (rX X ts) L0 ls)[2 + X.length]? = some (.lst (ts.map rowD)) := by
      intro ts ls
      unfold dX rX
      rw [show 2 + X.length = X.length + 1 + 1 by omega, List.getElem?_cons_succ, List.getElem?_cons_succ]
      simp
    unfold chkM
    rw [isL_ref (g ts zs), cond_true]
    refine (bnd_M (a := [rowD (a, v + 1, w)]) (M1 := dX (rX X ts) L0 us) ?_).trans ?_
    · refine (bnd_M (a := rowD (a, v + 1, w)) (M1 := dX (rX X ts) L0 us) ?_).trans rfl
      refine (bnd_M (a := [optD a, .int ((v + 1 : Nat) : Int), .int w]) (M1 := dX (rX X ts) L0 us) ?_).trans ?_
      · refine (bnd_M e3).trans ?_
        refine (bnd_M (a := [.int ((v + 1 : Nat) : Int), .int w]) (M1 := dX (rX X ts) L0 us) ?_).trans rfl
        refine (bnd_M (a := .int ((v + 1 : Nat) : Int)) (M1 := dX (rX X ts) L0 ws) rfl).trans ?_
        refine (bnd_M (a := [.int w]) (M1 := dX (rX X ts) L0 us) ?_).trans rfl
        refine (bnd_M (a := .int w) (M1 := dX (rX X ts) L0 us) ?_).trans rfl
        exact e4
      · rw [tup_ok (by rw [PySem.sizeLine_eq]; simp)]
        rfl
    · rw [append_run (g ts us) (by rw [PySem.sizeLine_eq]; simp; omega)]
      congr 2
      unfold dX rX
      rw [show 2 + X.length = X.length + 1 + 1 by omega, List.set_cons_succ, List.set_cons_succ, last_set, List.map_append]
      rfl
theorem law_tasks_run {X : Mem} (hX : NR X) (L0 xs : List Int) : ∃ (ts : List Row) (ys : List Int), m__law_tasks [.ref 1, .int 9, .int 12] (dX X L0 xs) = some (.ok (tasksD ts), dX X L0 ys) ∧ TK ts := by
  obtain ⟨many, ys, e0, hm⟩ := take_nat hX L0 xs (b := 10) (by decide)
  have hm' : many ≤ 9 := by omega
  obtain ⟨ρ1, M1, e1, ts, zs, a, b, c, rfl, rfl, h1, h2, h3⟩ := forL_ind (h := fun d ρ => .ret (ρ.set 5 (some d))) (body := l1__law_tasks)
    (fun i ρ M => ∃ (ts : List Row) (zs : List Int) (a b c : Option D), ρ = DR X 9 12 many a b c ∧ M = dX (rX X ts) L0 zs ∧ ts.length = i ∧
      (∀ j (h : j < ts.length) q, ts[j].1 = some q → j + 1 ≤ q ∧ q < many) ∧ ∀ t ∈ ts, t.2.1 ≤ 1000000 ∧ t.2.2 ≤ t.2.1)
    ((List.range many).map fun k => .int (k : Nat)) 0 (DR X 9 12 many none none none) (dX (rX X []) L0 ys) ⟨[], ys, none, none, none, rfl, rfl, rfl, by simp, by simp⟩ (by
      rintro i dd ρ M hj ⟨ts, zs, a, b, c, rfl, rfl, h1, h2, h3⟩
      rw [Nat.zero_add] at *
      obtain ⟨hj', hd⟩ := List.getElem?_eq_some_iff.mp hj
      simp only [List.length_map, List.length_range] at hj'
      rw [List.getElem_map, List.getElem_range] at hd
      subst hd
      obtain ⟨t, us, b', c', z, k1, k2, k3⟩ := dt_step hX (many := many) (j := i) (ts := ts) (L0 := L0) (xs := zs) (b := b) (c := c) hm' hj' (by omega)
      refine ⟨DR X 9 12 many (some (.int i)) b c, _, rfl, _, _, .inl z, ts ++ [t], us, _, _, _, rfl, rfl, by rw [List.length_append, h1]; rfl, ?_, ?_⟩
      · intro j hj2 q hq
        rw [List.getElem_append] at hq
        split at hq
        · rename_i hlt
          exact h2 j hlt q hq
        · rename_i hlt
          have : j = i := by rw [List.length_append] at hj2; simp at hj2; omega
          subst this
          simp only [List.getElem_singleton] at hq
          exact k1 q hq
      · intro x hx
        rcases List.mem_append.mp hx with hx | hx
        · exact h3 x hx
        · rw [List.mem_singleton] at hx
          rw [hx]
          exact ⟨k2, k3⟩)
  rw [List.length_map, List.length_range, Nat.zero_add] at h1
  refine ⟨ts, zs, ?_, by omega, fun i h q hq => by rw [h1]; exact h2 i h q hq, h3⟩
  have hg : g__law_tasks (startE N__law_tasks [.ref 1, .int 9, .int 12]) (dX X L0 xs) = some (.ret (tasksD ts), dX (rX X ts) L0 zs) := by
    unfold g__law_tasks N__law_tasks
    refine (run_seq (ρ1 := DR X 9 12 many none none none) (M1 := dX (rX X []) L0 ys) ?_).trans ?_
    · refine (sE_M (a := [.int many, .ref (2 + X.length)]) (M1 := dX (rX X []) L0 ys) ?_).trans ?_
      · refine (bnd_M (a := .int many) (M1 := dX X L0 ys) ?_).trans ?_
        · exact e0
        · refine (bnd_M (a := [.ref (2 + X.length)]) (M1 := dX (rX X []) L0 ys) ?_).trans rfl
          refine (bnd_M (a := .ref (2 + X.length)) (M1 := dX (rX X []) L0 ys) ?_).trans rfl
          show newL [] (dX X L0 ys) = _
          unfold newL dX rX
          simp [lenOk]
          omega
      · rfl
    refine (run_seq (ρ1 := DR X 9 12 many a b c) (M1 := dX (rX X ts) L0 zs) ?_).trans ?_
    · have rn := rngD1_nat (n := many) (by omega)
      simp only [for_app]
      unfold DR at e1 ⊢
      simp -implicitDefEqProofs [rn]
      exact e1
    · have g : (dX (rX X ts) L0 zs)[2 + X.length]? = some (.lst (ts.map rowD)) := by
        unfold dX rX
        rw [show 2 + X.length = X.length + 1 + 1 by omega, List.getElem?_cons_succ, List.getElem?_cons_succ]
        simp
      have tl : tupleD (.ref (2 + X.length)) (dX (rX X ts) L0 zs) = some (.ok (tasksD ts), dX (rX X ts) L0 zs) := by
        simp [tupleD, seqB, res, g, tasksD]
      unfold DR
      simp -implicitDefEqProofs [sE, Mo.bnd, Mo.ret, tl]
  unfold m__law_tasks fnD
  have ht : (dX (rX X ts) L0 zs).take (dX X L0 xs).length = dX X L0 zs := by
    unfold dX rX
    simp
  rw [hg, fnR_noref (noref_tasks ts)]
  · rw [ht]
  · rw [ht]
    exact dX_nr hX L0 zs
end K67
namespace K67
open DL
noncomputable def q0 : Sn := fun ρ => sE (.bnd (.bnd (getV ρ 0) fun d => .bnd (.ret []) fun ds => .ret (d :: ds)) (m__law_draws)) ρ fun d M => some (.nx (ρ.set 4 (some d)), M)
noncomputable def q1 : Sn := fun ρ => sE (.bnd (.bnd (getV ρ 4) fun d => .bnd (.bnd (.ret (.int 9)) fun d => .bnd (.ret []) fun ds => .ret (d :: ds)) fun ds => .ret (d :: ds)) (m__law_take)) ρ fun d M => some (.nx (ρ.set 5 (some d)), M)
noncomputable def q2 : Sn := fun ρ => sE (.bnd (.bnd (.bnd (getV ρ 4) fun d => .bnd (.bnd (getV ρ 5) fun d => .bnd (.bnd (.bnd (.bnd (.bnd (.ret (.int 15)) fun d => .bnd (.bnd (.ret (.int 30)) fun d => .bnd (.bnd (.ret (.int 60)) fun d => .bnd (.ret []) fun ds => .ret (d :: ds)) fun ds => .ret (d :: ds)) fun ds => .ret (d :: ds)) lstD) fun a => .bnd (.bnd (.bnd (getV ρ 4) fun d => .bnd (.bnd (.ret (.int 3)) fun d => .bnd (.ret []) fun ds => .ret (d :: ds)) fun ds => .ret (d :: ds)) (m__law_take)) fun b => subD' a b) fun d => .bnd (.ret []) fun ds => .ret (d :: ds)) fun ds => .ret (d :: ds)) fun ds => .ret (d :: ds)) (m__law_graph)) fun d => .bnd (.bnd (.bnd (.bnd (getV ρ 4) fun d => .bnd (.bnd (getV ρ 5) fun d => .bnd (.ret []) fun ds => .ret (d :: ds)) fun ds => .ret (d :: ds)) (m__law_order)) fun d => .bnd (.ret []) fun ds => .ret (d :: ds)) fun ds => .ret (d :: ds)) ρ (par2 6 7 ρ)
noncomputable def q3 : Sn := fun ρ => sE (.bnd (.bnd (.bnd (.bnd (getV ρ 6) fun d => .ret (unT d)) fun d => .bnd (.bnd (.bnd (getV ρ 7) fun d => .ret (unT d)) fun d => .bnd (.ret []) fun ds => .ret (d :: ds)) fun ds => .ret (d :: ds)) (m_tasks_of)) fun d => .bnd (.bnd (.bnd (.bnd (.bnd (getV ρ 6) fun d => .ret (unT d)) fun d => .bnd (.bnd (.bnd (getV ρ 7) fun d => .ret (unT d)) fun d => .bnd (.ret []) fun ds => .ret (d :: ds)) fun ds => .ret (d :: ds)) (m__law_filled)) fun d => .bnd (.ret []) fun ds => .ret (d :: ds)) fun ds => .ret (d :: ds)) ρ (par2 8 9 ρ)
noncomputable def q4 : Sn := sIf (fun ρ => .bnd (.bnd (.bnd (.bnd (.bnd (getV ρ 8) fun d => .bnd (.bnd (.bnd (.bnd (getV ρ 6) fun d => .bnd (.bnd (getV ρ 7) fun d => .bnd (.ret []) fun ds => .ret (d :: ds)) fun ds => .ret (d :: ds)) (m__law_tasks_of)) fun d => .bnd (.ret []) fun ds => .ret (d :: ds)) fun ds => .ret (d :: ds)) (m__law_alike 9)) boolD) fun b => .ret (!b)) fun z => cond z (.ret true) (.bnd (.bnd (.bnd (.bnd (getV ρ 8) fun d => .bnd (.ret []) fun ds => .ret (d :: ds)) (m_are_tasks)) fun a => .bnd (.ret (.bl true)) fun b => isnD a b) boolD))
      (fun ρ => sE (.ret (.bl false)) ρ fun d M => some (.ret d, M))
      (sNext)
noncomputable def q5 : Sn := sFor (fun ρ => .bnd (.bnd (getV ρ 5) fun d => .bnd (.ret []) fun ds => .ret (d :: ds)) rngD1) (fun d ρ => .ret (ρ.set 3 (some d))) l2_law
noncomputable def q6 : Sn := fun ρ => sE (.bnd (.bnd (getV ρ 4) fun d => .bnd (.bnd (.ret (.int 9)) fun d => .bnd (.bnd (.ret (.int 12)) fun d => .bnd (.ret []) fun ds => .ret (d :: ds)) fun ds => .ret (d :: ds)) fun ds => .ret (d :: ds)) (m__law_tasks)) ρ fun d M => some (.nx (ρ.set 12 (some d)), M)
noncomputable def q7 : Sn := sFor (fun ρ => .bnd (.bnd (.bnd (getV ρ 8) fun d => .bnd (.bnd (getV ρ 12) fun d => .bnd (.ret []) fun ds => .ret (d :: ds)) fun ds => .ret (d :: ds)) lstD) itD) (fun d ρ => .ret (ρ.set 13 (some d))) l3_law
noncomputable def q8 : Sn := fun ρ => sE (.bnd (.bnd (.bnd (.bnd (.ret (.int 1)) fun d => .bnd (.bnd (.ret (.int 5)) fun d => .bnd (.bnd (.ret (.int 2)) fun d => .bnd (.ret []) fun ds => .ret (d :: ds)) fun ds => .ret (d :: ds)) fun ds => .ret (d :: ds)) tupD) fun d => .bnd (.bnd (.bnd (.bnd (.ret .non) fun d => .bnd (.bnd (.ret (.int 3)) fun d => .bnd (.bnd (.ret (.int 0)) fun d => .bnd (.ret []) fun ds => .ret (d :: ds)) fun ds => .ret (d :: ds)) fun ds => .ret (d :: ds)) tupD) fun d => .bnd (.ret []) fun ds => .ret (d :: ds)) fun ds => .ret (d :: ds)) tupD) ρ fun d M => some (.nx (ρ.set 15 (some d)), M)
noncomputable def q9 : Sn := fun ρ => sE (.bnd (.bnd (.ret .non) fun d => .bnd (.bnd (.bnd (.bnd (getV ρ 15) fun d => .bnd (.ret []) fun ds => .ret (d :: ds)) (arg1 (listA false))) fun d => .bnd (.bnd (.bnd (getV ρ 15) fun a => .bnd (.bnd (.bnd (.ret .non) fun d => .bnd (.ret []) fun ds => .ret (d :: ds)) tupD) fun b => addD a b) fun d => .bnd (.bnd (.bnd (getV ρ 15) fun a => .bnd (.bnd (.bnd (.bnd (.bnd (.ret .non) fun d => .bnd (.bnd (.ret (.int 1)) fun d => .bnd (.ret []) fun ds => .ret (d :: ds)) fun ds => .ret (d :: ds)) tupD) fun d => .bnd (.ret []) fun ds => .ret (d :: ds)) tupD) fun b => addD a b) fun d => .bnd (.bnd (.bnd (getV ρ 15) fun a => .bnd (.bnd (.bnd (.bnd (.bnd (.ret .non) fun d => .bnd (.bnd (.ret (.int 1)) fun d => .bnd (.bnd (.ret (.int 0)) fun d => .bnd (.bnd (.ret (.int 0)) fun d => .bnd (.ret []) fun ds => .ret (d :: ds)) fun ds => .ret (d :: ds)) fun ds => .ret (d :: ds)) fun ds => .ret (d :: ds)) tupD) fun d => .bnd (.ret []) fun ds => .ret (d :: ds)) tupD) fun b => addD a b) fun d => .bnd (.bnd (.bnd (getV ρ 15) fun a => .bnd (.bnd (.bnd (.bnd (.bnd (.ret .non) fun d => .bnd (.bnd (.ret (.int 1)) fun d => .bnd (.bnd (.ret (.int 0)) fun d => .bnd (.ret []) fun ds => .ret (d :: ds)) fun ds => .ret (d :: ds)) fun ds => .ret (d :: ds)) lstD) fun d => .bnd (.ret []) fun ds => .ret (d :: ds)) tupD) fun b => addD a b) fun d => .bnd (.bnd (.bnd (.bnd (.bnd (.bnd (.bnd (.ret (.int 2)) fun d => .bnd (.bnd (.ret (.int 5)) fun d => .bnd (.bnd (.ret (.int 2)) fun d => .bnd (.ret []) fun ds => .ret (d :: ds)) fun ds => .ret (d :: ds)) fun ds => .ret (d :: ds)) tupD) fun d => .bnd (.ret []) fun ds => .ret (d :: ds)) tupD) fun a => .bnd (.bnd (getV ρ 15) fun a => .bnd (.bnd (.ret (.int 1)) partD) fun l => .bnd (.ret none) fun h => sliceD a l h) fun b => addD a b) fun d => .bnd (.ret []) fun ds => .ret (d :: ds)) fun ds => .ret (d :: ds)) fun ds => .ret (d :: ds)) fun ds => .ret (d :: ds)) fun ds => .ret (d :: ds)) fun ds => .ret (d :: ds)) fun ds => .ret (d :: ds)) lstD) ρ fun d M => some (.nx (ρ.set 16 (some d)), M)
noncomputable def q10 : Sn := fun ρ => sE (.bnd (getV ρ 16) fun a => .bnd (.bnd (.bnd (.bnd (.bnd (.bnd (.bnd (.bnd (.ret (.int 0)) fun d => .bnd (.bnd (.ret (.int 5)) fun d => .bnd (.bnd (.ret (.int 2)) fun d => .bnd (.ret []) fun ds => .ret (d :: ds)) fun ds => .ret (d :: ds)) fun ds => .ret (d :: ds)) tupD) fun d => .bnd (.ret []) fun ds => .ret (d :: ds)) tupD) fun a => .bnd (.bnd (getV ρ 15) fun a => .bnd (.bnd (.ret (.int 1)) partD) fun l => .bnd (.ret none) fun h => sliceD a l h) fun b => addD a b) fun d => .bnd (.bnd (.bnd (.bnd (.bnd (.bnd (.bnd (.bnd (.ret (.int 1)) fun a => negD a) fun d => .bnd (.bnd (.ret (.int 5)) fun d => .bnd (.bnd (.ret (.int 2)) fun d => .bnd (.ret []) fun ds => .ret (d :: ds)) fun ds => .ret (d :: ds)) fun ds => .ret (d :: ds)) tupD) fun d => .bnd (.ret []) fun ds => .ret (d :: ds)) tupD) fun a => .bnd (.bnd (getV ρ 15) fun a => .bnd (.bnd (.ret (.int 1)) partD) fun l => .bnd (.ret none) fun h => sliceD a l h) fun b => addD a b) fun d => .bnd (.ret []) fun ds => .ret (d :: ds)) fun ds => .ret (d :: ds)) lstD) fun b => addD a b) ρ fun d M => some (.nx (ρ.set 16 (some d)), M)
noncomputable def q11 : Sn := fun ρ => sE (.bnd (getV ρ 16) fun a => .bnd (.bnd (.bnd (.bnd (.bnd (.bnd (.bnd (.bnd (.ret (.bl true)) fun d => .bnd (.bnd (.ret (.int 5)) fun d => .bnd (.bnd (.ret (.int 2)) fun d => .bnd (.ret []) fun ds => .ret (d :: ds)) fun ds => .ret (d :: ds)) fun ds => .ret (d :: ds)) tupD) fun d => .bnd (.ret []) fun ds => .ret (d :: ds)) tupD) fun a => .bnd (.bnd (getV ρ 15) fun a => .bnd (.bnd (.ret (.int 1)) partD) fun l => .bnd (.ret none) fun h => sliceD a l h) fun b => addD a b) fun d => .bnd (.bnd (.bnd (.bnd (.bnd (.bnd (.bnd (.ret (.str "1")) fun d => .bnd (.bnd (.ret (.int 5)) fun d => .bnd (.bnd (.ret (.int 2)) fun d => .bnd (.ret []) fun ds => .ret (d :: ds)) fun ds => .ret (d :: ds)) fun ds => .ret (d :: ds)) tupD) fun d => .bnd (.ret []) fun ds => .ret (d :: ds)) tupD) fun a => .bnd (.bnd (getV ρ 15) fun a => .bnd (.bnd (.ret (.int 1)) partD) fun l => .bnd (.ret none) fun h => sliceD a l h) fun b => addD a b) fun d => .bnd (.bnd (.bnd (.bnd (.bnd (.bnd (.bnd (.ret (.int 1)) fun d => .bnd (.bnd (.ret (.int 5)) fun d => .bnd (.bnd (.ret (.int 6)) fun d => .bnd (.ret []) fun ds => .ret (d :: ds)) fun ds => .ret (d :: ds)) fun ds => .ret (d :: ds)) tupD) fun d => .bnd (.ret []) fun ds => .ret (d :: ds)) tupD) fun a => .bnd (.bnd (getV ρ 15) fun a => .bnd (.bnd (.ret (.int 1)) partD) fun l => .bnd (.ret none) fun h => sliceD a l h) fun b => addD a b) fun d => .bnd (.bnd (.bnd (.bnd (.bnd (.bnd (.bnd (.ret (.int 1)) fun d => .bnd (.bnd (.bnd (.ret (.int 1)) fun a => negD a) fun d => .bnd (.bnd (.ret (.int 0)) fun d => .bnd (.ret []) fun ds => .ret (d :: ds)) fun ds => .ret (d :: ds)) fun ds => .ret (d :: ds)) tupD) fun d => .bnd (.ret []) fun ds => .ret (d :: ds)) tupD) fun a => .bnd (.bnd (getV ρ 15) fun a => .bnd (.bnd (.ret (.int 1)) partD) fun l => .bnd (.ret none) fun h => sliceD a l h) fun b => addD a b) fun d => .bnd (.bnd (.bnd (.bnd (.bnd (.bnd (.bnd (.ret (.int 1)) fun d => .bnd (.bnd (.ret (.int 5)) fun d => .bnd (.bnd (.bnd (.ret (.int 1)) fun a => negD a) fun d => .bnd (.ret []) fun ds => .ret (d :: ds)) fun ds => .ret (d :: ds)) fun ds => .ret (d :: ds)) tupD) fun d => .bnd (.ret []) fun ds => .ret (d :: ds)) tupD) fun a => .bnd (.bnd (getV ρ 15) fun a => .bnd (.bnd (.ret (.int 1)) partD) fun l => .bnd (.ret none) fun h => sliceD a l h) fun b => addD a b) fun d => .bnd (.bnd (.bnd (.bnd (.bnd (.bnd (.bnd (.ret (.int 1)) fun d => .bnd (.bnd (.bnd (.bnd (.ret (.int 10)) fun a => .bnd (.ret (.int 6)) fun b => powD a b) fun a => .bnd (.ret (.int 1)) fun b => addD a b) fun d => .bnd (.bnd (.ret (.int 0)) fun d => .bnd (.ret []) fun ds => .ret (d :: ds)) fun ds => .ret (d :: ds)) fun ds => .ret (d :: ds)) tupD) fun d => .bnd (.ret []) fun ds => .ret (d :: ds)) tupD) fun a => .bnd (.bnd (getV ρ 15) fun a => .bnd (.bnd (.ret (.int 1)) partD) fun l => .bnd (.ret none) fun h => sliceD a l h) fun b => addD a b) fun d => .bnd (.ret []) fun ds => .ret (d :: ds)) fun ds => .ret (d :: ds)) fun ds => .ret (d :: ds)) fun ds => .ret (d :: ds)) fun ds => .ret (d :: ds)) fun ds => .ret (d :: ds)) lstD) fun b => addD a b) ρ fun d M => some (.nx (ρ.set 16 (some d)), M)
noncomputable def q12 : Sn := fun ρ => sE (.bnd (getV ρ 16) fun a => .bnd (.bnd (.bnd (.bnd (.bnd (.bnd (.bnd (.bnd (.ret (.int 1)) fun d => .bnd (.bnd (.ret .non) fun d => .bnd (.bnd (.ret (.int 0)) fun d => .bnd (.ret []) fun ds => .ret (d :: ds)) fun ds => .ret (d :: ds)) fun ds => .ret (d :: ds)) tupD) fun d => .bnd (.ret []) fun ds => .ret (d :: ds)) tupD) fun a => .bnd (.bnd (getV ρ 15) fun a => .bnd (.bnd (.ret (.int 1)) partD) fun l => .bnd (.ret none) fun h => sliceD a l h) fun b => addD a b) fun d => .bnd (.bnd (.bnd (.bnd (getV ρ 15) fun a => .bnd (.ret none) fun l => .bnd (.bnd (.ret (.int 1)) partD) fun h => sliceD a l h) fun a => .bnd (.bnd (.bnd (.bnd (.bnd (.ret (.int 1)) fun d => .bnd (.bnd (.ret (.int 3)) fun d => .bnd (.bnd (.ret (.int 0)) fun d => .bnd (.ret []) fun ds => .ret (d :: ds)) fun ds => .ret (d :: ds)) fun ds => .ret (d :: ds)) tupD) fun d => .bnd (.ret []) fun ds => .ret (d :: ds)) tupD) fun b => addD a b) fun d => .bnd (.bnd (.bnd (getV ρ 15) fun a => .bnd (.ret none) fun l => .bnd (.bnd (.ret (.int 1)) partD) fun h => sliceD a l h) fun d => .bnd (.bnd (.bnd (.bnd (.bnd (.bnd (.bnd (.ret .non) fun d => .bnd (.bnd (.ret (.int 0)) fun d => .bnd (.bnd (.ret (.int 0)) fun d => .bnd (.ret []) fun ds => .ret (d :: ds)) fun ds => .ret (d :: ds)) fun ds => .ret (d :: ds)) tupD) fun d => .bnd (.ret []) fun ds => .ret (d :: ds)) tupD) fun a => .bnd (.ret (.int 61)) fun b => repD false a b) fun d => .bnd (.bnd (.ret (.int 5)) fun d => .bnd (.ret []) fun ds => .ret (d :: ds)) fun ds => .ret (d :: ds)) fun ds => .ret (d :: ds)) fun ds => .ret (d :: ds)) fun ds => .ret (d :: ds)) lstD) fun b => addD a b) ρ fun d M => some (.nx (ρ.set 16 (some d)), M)
noncomputable def q13 : Sn := sIf (fun ρ => .bnd (.bnd (.bnd (.bnd (getV ρ 16) itD) fun it => cmpD false stL [] .lst .lst (compL it.gd (turn1 (wipeR ρ [1]) (fun d ρ => .ret (ρ.set 1 (some d))) (fun ρ => .bnd (.bnd (.bnd (.bnd (getV ρ 1) fun d => .bnd (.ret []) fun ds => .ret (d :: ds)) (m_are_tasks)) fun a => .bnd (.ret (.bl false)) fun b => isnD a b) boolD) (one' fun ρ => getV ρ 1)) it.items)) fun a => .bnd (.bnd (.ret []) lstD) fun b => neD a b) boolD)
      (fun ρ => sE (.ret (.bl false)) ρ fun d M => some (.ret d, M))
      (sNext)
noncomputable def q14 : Sn := fun ρ => sE (.bnd (.bnd (.bnd (.bnd (.bnd (.bnd (.ret []) tupD) fun d => .bnd (.bnd (getV ρ 15) fun d => .bnd (.bnd (.bnd (.bnd (.bnd (.bnd (.bnd (.ret .non) fun d => .bnd (.bnd (.ret (.int 0)) fun d => .bnd (.bnd (.ret (.int 0)) fun d => .bnd (.ret []) fun ds => .ret (d :: ds)) fun ds => .ret (d :: ds)) fun ds => .ret (d :: ds)) tupD) fun d => .bnd (.ret []) fun ds => .ret (d :: ds)) tupD) fun a => .bnd (.ret (.int 60)) fun b => repD false a b) fun d => .bnd (.bnd (.bnd (.bnd (.bnd (.bnd (.ret (.int 1)) fun d => .bnd (.bnd (.bnd (.ret (.int 10)) fun a => .bnd (.ret (.int 6)) fun b => powD a b) fun d => .bnd (.bnd (.bnd (.ret (.int 10)) fun a => .bnd (.ret (.int 6)) fun b => powD a b) fun d => .bnd (.ret []) fun ds => .ret (d :: ds)) fun ds => .ret (d :: ds)) fun ds => .ret (d :: ds)) tupD) fun d => .bnd (.bnd (.bnd (.bnd (.ret .non) fun d => .bnd (.bnd (.ret (.int 0)) fun d => .bnd (.bnd (.ret (.int 0)) fun d => .bnd (.ret []) fun ds => .ret (d :: ds)) fun ds => .ret (d :: ds)) fun ds => .ret (d :: ds)) tupD) fun d => .bnd (.ret []) fun ds => .ret (d :: ds)) fun ds => .ret (d :: ds)) tupD) fun d => .bnd (.ret []) fun ds => .ret (d :: ds)) fun ds => .ret (d :: ds)) fun ds => .ret (d :: ds)) fun ds => .ret (d :: ds)) lstD) itD) fun it => cmpD false stL [] .lst .lst (compL it.gd (turn1 (wipeR ρ [1]) (fun d ρ => .ret (ρ.set 1 (some d))) (fun ρ => .bnd (.bnd (.bnd (.bnd (getV ρ 1) fun d => .bnd (.ret []) fun ds => .ret (d :: ds)) (m_are_tasks)) fun a => .bnd (.ret (.bl true)) fun b => isnD a b) boolD) (one' fun ρ => getV ρ 1)) it.items)) fun a => .bnd (.bnd (.ret []) lstD) fun b => eqD a b) ρ fun d M => some (.ret d, M)
theorem g_law_split : g_law = sSeq q0 (sSeq q1 (sSeq q2 (sSeq q3 (sSeq q4 (sSeq q5 (sSeq q6 (sSeq q7 (sSeq q8 (sSeq q9 (sSeq q10 (sSeq q11 (sSeq q12 (sSeq q13 q14))))))))))))) := rfl
def LS (S p g o t lt nu up wy dr so to go od : Option D) : En := [S, none, none, nu, some (.ref 1), p, g, o, t, lt, up, wy, dr, so, to, go, od]
end K67
namespace K67
open DL
variable {p : Nat} {es : List (Nat × Nat)} {L : List Nat}
theorem par_step (o : Ord p L) {k v w : Nat} (hv : L[k]? = some v) (hw : w ∈ latv es L v) : ∃ q u, parOf es L v = some q ∧ L[q]? = some u ∧ (w = u ∨ w ∈ latv es L u) := by
  have hk := pl_at o hv
  unfold latv at hw
  rw [hk] at hw
  obtain ⟨u, r, q, h1, h2, _, h4⟩ := lat_step o.nd hv hw
  have hq := pl_at o h2
  refine ⟨q, u, ?_, h2, ?_⟩
  · unfold parOf latv
    rw [hk, h1, ← hq]
    rfl
  · unfold latv
    rw [hq]
    exact h4
theorem task_len (o : Ord p L) : (taskL es L).length = p := by unfold taskL; rw [List.length_map, o.len]
theorem task_get (o : Ord p L) {k v : Nat} (hv : L[k]? = some v) : subD' (tasksD (taskL es L)) (.int k) = .ret (rowD (rowOf es L v)) := by
  obtain ⟨hk, e⟩ := List.getElem?_eq_some_iff.mp hv
  have h2 : k < (taskL es L).length := by rw [task_len o, ← o.len]; exact hk
  rw [sub_tasks h2]
  have e : (taskL es L)[k] = rowOf es L v := by
    rw [← e]
    exact List.getElem_map ..
  rw [e]
theorem par_lt (hp : p ≤ 9) (ok : ∀ a ∈ es, a.1 < a.2 ∧ a.2 < p) (o : Ord p L) {k v q : Nat} (hv : L[k]? = some v) (h : parOf es L v = some q) : k < q ∧ q < p := by
  obtain ⟨hk, e⟩ := List.getElem?_eq_some_iff.mp hv
  have h2 : k < (taskL es L).length := by rw [task_len o, ← o.len]; exact hk
  have := (task_TK hp ok o).par k h2 q (by
    have e2 : (taskL es L)[k] = rowOf es L v := by
      rw [← e]
      exact List.getElem_map ..
    rw [e2]
    exact h)
  rw [task_len o] at this
  omega
noncomputable def CS (S : Option D) (p : Nat) (es : List (Nat × Nat)) (L : List Nat) (k : Nat) (n : Nat) (up : Option Nat) : En := LS S (some (.int p)) (some (graD p es)) (some (ordN L)) (some (tasksD (taskL es L))) (some (laterD es L)) (some (.int k)) (some (optD up)) (some (.ref n)) none none none none none
def wX (X : Mem) (W : List Nat) : Mem := X ++ [.lst (W.map eN)]
theorem wX_get (X : Mem) (W : List Nat) (L0 zs : List Int) : (dX (wX X W) L0 zs)[2 + X.length]? = some (.lst (W.map eN)) := by
  unfold dX wX
  rw [show 2 + X.length = X.length + 1 + 1 by omega, List.getElem?_cons_succ, List.getElem?_cons_succ]
  simp
theorem up_step (o : Ord p L) {S : Option D} {k q u : Nat} {X : Mem} {W : List Nat} {L0 zs : List Int} (hq : L[q]? = some u) (hW : W.length ≤ 100) :
    l1_law (CS S p es L k (2 + X.length) (some q)) (dX (wX X W) L0 zs) = some (.nx (CS S p es L k (2 + X.length) (parOf es L u)), dX (wX X (W ++ [u])) L0 zs) := by
  have s1 : subD' (ordD L) (.int q) = .ret (.int u) := sub_tup (atD_nat (by rw [List.getElem?_map, hq]; rfl))
  have ap := append_run (d := .int u) (wX_get X W L0 zs) (by rw [PySem.sizeLine_eq]; simp; omega)
  have ap' : appendD (.ref (2 + X.length)) [.int u] (dX (wX X W) L0 zs) = some (.ok .non, dX (wX X (W ++ [u])) L0 zs) := by
    rw [ap]
    congr 2
    unfold dX wX
    rw [show 2 + X.length = X.length + 1 + 1 by omega, List.set_cons_succ, List.set_cons_succ, last_set, List.map_append]
    rfl
  have t1 := task_get (es := es) o hq
  unfold l1_law
  refine (run_seq (ρ1 := CS S p es L k (2 + X.length) (some q)) (M1 := dX (wX X (W ++ [u])) L0 zs) ?_).trans ?_
  · refine (sE_M (a := .non) (M1 := dX (wX X (W ++ [u])) L0 zs) ?_).trans rfl
    refine (bnd_M (a := .ref (2 + X.length)) (M1 := dX (wX X W) L0 zs) rfl).trans ?_
    unfold chkM
    rw [isL_ref (wX_get X W L0 zs), cond_true]
    refine (bnd_M (a := [.int u]) (M1 := dX (wX X W) L0 zs) ?_).trans ap'
    refine (bnd_M (a := .int u) (M1 := dX (wX X W) L0 zs) ?_).trans rfl
    refine (bnd_M (a := ordD L) (M1 := dX (wX X W) L0 zs) rfl).trans ?_
    refine (bnd_M (a := .int q) (M1 := dX (wX X W) L0 zs) rfl).trans ?_
    rw [s1]; rfl
  · refine (sE_M (a := optD (parOf es L u)) (M1 := dX (wX X (W ++ [u])) L0 zs) ?_).trans rfl
    refine (bnd_M (a := rowD (rowOf es L u)) (M1 := dX (wX X (W ++ [u])) L0 zs) ?_).trans ?_
    · refine (bnd_M (a := tasksD (taskL es L)) (M1 := dX (wX X (W ++ [u])) L0 zs) rfl).trans ?_
      refine (bnd_M (a := .int q) (M1 := dX (wX X (W ++ [u])) L0 zs) rfl).trans ?_
      rw [t1]; rfl
    · refine (bnd_M (a := .int 0) (M1 := dX (wX X (W ++ [u])) L0 zs) rfl).trans ?_
      rw [row_0]; rfl
theorem up_cond {S : Option D} {k n : Nat} {up : Option Nat} {M : Mem} : Mo.bnd (.bnd (getV (CS S p es L k n up) 10) fun a => .bnd (.ret .non) fun b => isnD a b) boolD M = some (.ok (decide (up ≠ none)), M) := by
  cases up <;> rfl
theorem climb (hp : p ≤ 9) (ok : ∀ a ∈ es, a.1 < a.2 ∧ a.2 < p) (o : Ord p L) {S : Option D} {k v : Nat} (hv : L[k]? = some v) {X : Mem} {L0 zs : List Int} :
    ∃ W : List Nat, whileN (fun ρ => .bnd (.bnd (getV ρ 10) fun a => .bnd (.ret .non) fun b => isnD a b) boolD) l1_law 1000 (CS S p es L k (2 + X.length) (parOf es L v)) (dX (wX X []) L0 zs) =
      some (.nx (CS S p es L k (2 + X.length) none), dX (wX X W) L0 zs) ∧ ∀ w ∈ latv es L v, w ∈ W := by
  obtain ⟨m', ρ', M', e1, ⟨up, W, rfl, rfl, h1, h2, h3⟩, hc⟩ := while_ind (c := fun ρ => .bnd (.bnd (getV ρ 10) fun a => .bnd (.ret .non) fun b => isnD a b) boolD) (body := l1_law)
    (fun m ρ M => ∃ (up : Option Nat) (W : List Nat), ρ = CS S p es L k (2 + X.length) up ∧ M = dX (wX X W) L0 zs ∧ (∀ q, up = some q → q < p ∧ p - q ≤ m) ∧ W.length + m ≤ 9 ∧
      ∀ w ∈ latv es L v, w ∈ W ∨ ∃ q u, up = some q ∧ L[q]? = some u ∧ (w = u ∨ w ∈ latv es L u)) (by
      rintro m ρ M ⟨up, W, rfl, rfl, h1, h2, h3⟩
      cases hu : up with
      | none => exact .inl up_cond
      | some q =>
        right
        obtain ⟨hq, hm⟩ := h1 q hu
        have hL : q < L.length := by rw [o.len]; exact hq
        have hgq : L[q]? = some L[q] := List.getElem?_eq_getElem hL
        refine ⟨up_cond, m - 1, by omega, _, _, .inl (up_step o hgq (by omega)), parOf es L L[q], W ++ [L[q]], rfl, rfl, ?_, by rw [List.length_append]; simp; omega, ?_⟩
        · intro r hr
          have := par_lt hp ok o hgq hr
          omega
        · intro w hw
          rcases h3 w hw with h | ⟨q', u', e1, e2, h⟩
          · exact .inl (List.mem_append_left _ h)
          · rw [hu] at e1
            cases e1
            rw [hgq] at e2
            cases e2
            rcases h with h | h
            · exact .inl (List.mem_append_right _ (by rw [List.mem_singleton]; exact h))
            · obtain ⟨q2, u2, k1, k2, k3⟩ := par_step o hgq h
              exact .inr ⟨q2, u2, k1, k2, k3⟩) 1000 p (CS S p es L k (2 + X.length) (parOf es L v)) (dX (wX X []) L0 zs) (by omega) ⟨parOf es L v, [], rfl, rfl, fun q hq => by
        have := par_lt hp ok o hv hq
        omega, by simp; omega, fun w hw => .inr (by
        obtain ⟨q2, u2, k1, k2, k3⟩ := par_step o hv hw
        exact ⟨q2, u2, k1, k2, k3⟩)⟩
  have hn : up = none := by
    rw [up_cond] at hc
    cases up with
    | none => rfl
    | some q => cases hc
  subst hn
  refine ⟨W, e1, fun w hw => ?_⟩
  rcases h3 w hw with h | ⟨q, u, e, _⟩
  · exact h
  · cases e
end K67
namespace K67
open DL
variable {p : Nat} {es : List (Nat × Nat)} {L : List Nat}
noncomputable def CT (S : Option D) (p : Nat) (es : List (Nat × Nat)) (L : List Nat) (nu up wy : Option D) : En := LS S (some (.int p)) (some (graD p es)) (some (ordN L)) (some (tasksD (taskL es L))) (some (laterD es L)) nu up wy none none none none none
theorem wX_nr {X : Mem} (hX : NR X) (W : List Nat) : NR (wX X W) := by
  intro o ho
  rcases List.mem_append.mp ho with h | h
  · exact hX o h
  · rw [List.mem_singleton] at h
    rw [h]
    exact norefL_nats W
theorem way_run (hp : p ≤ 9) (ok : ∀ a ∈ es, a.1 < a.2 ∧ a.2 < p) (o : Ord p L) {S : Option D} {k v : Nat} (hv : L[k]? = some v) {X : Mem} {L0 zs : List Int} {up wy : Option D} :
    ∃ W : List Nat, l2_law (CT S p es L (some (.int k)) up wy) (dX X L0 zs) = some (.nx (CT S p es L (some (.int k)) (some .non) (some (.ref (2 + X.length)))), dX (wX X W) L0 zs) := by
  obtain ⟨W, e, hW⟩ := climb hp ok o (S := S) (X := X) (L0 := L0) (zs := zs) hv
  have hvp : v < p := o.lt v (List.mem_of_getElem? hv)
  refine ⟨W, ?_⟩
  have t1 := task_get (es := es) o hv
  unfold l2_law
  refine (run_seq (ρ1 := CS S p es L k (2 + X.length) (parOf es L v)) (M1 := dX (wX X []) L0 zs) ?_).trans ?_
  · refine (sE_M (a := .tup [optD (parOf es L v), .ref (2 + X.length)]) (M1 := dX (wX X []) L0 zs) ?_).trans ?_
    · refine (bnd_M (a := [optD (parOf es L v), .ref (2 + X.length)]) (M1 := dX (wX X []) L0 zs) ?_).trans ?_
      · refine (bnd_M (a := optD (parOf es L v)) (M1 := dX X L0 zs) ?_).trans ?_
        · refine (bnd_M (a := rowD (rowOf es L v)) (M1 := dX X L0 zs) ?_).trans ?_
          · refine (bnd_M (a := tasksD (taskL es L)) (M1 := dX X L0 zs) rfl).trans ?_
            refine (bnd_M (a := .int k) (M1 := dX X L0 zs) rfl).trans ?_
            rw [t1]; rfl
          · refine (bnd_M (a := .int 0) (M1 := dX X L0 zs) rfl).trans ?_
            rw [row_0]; rfl
        · refine (bnd_M (a := [.ref (2 + X.length)]) (M1 := dX (wX X []) L0 zs) ?_).trans rfl
          refine (bnd_M (a := .ref (2 + X.length)) (M1 := dX (wX X []) L0 zs) ?_).trans rfl
          show newL [] (dX X L0 zs) = _
          unfold newL dX wX
          simp [lenOk]
          omega
      · rw [tup_ok (by rw [PySem.sizeLine_eq]; simp)]
        rfl
    · unfold CT CS LS
      simp -implicitDefEqProofs [s0]
      rfl
  refine (run_seq e).trans ?_
  have hs : subD' (laterD es L) (.int v) = .ret (lL (latv es L v)) := later_sub o hvp
  have s1 : subD' (ordD L) (.int k) = .ret (.int v) := sub_tup (atD_nat (by rw [List.getElem?_map, hv]; rfl))
  have u1 : unT (ordN L) = ordD L := rfl
  have u2 : unT (laterD es L) = laterD es L := rfl
  have u3 : ∀ i : Int, unT (.int i) = .int i := fun _ => rfl
  have it : itD (lL (latv es L v)) = .ret ⟨(latv es L v).map eN, none⟩ := rfl
  have u4 : ∀ n, unT (.ref n) = .ref n := fun _ => rfl
  have hcomp : cmpD false stL [] .lst .lst (compL none (turn1 (wipeR (CS S p es L k (2 + X.length) none) [2]) (fun d ρ => .ret (ρ.set 2 (some d))) (fun ρ => .bnd (.bnd (.bnd (getV ρ 2) fun d => .ret (unT d)) fun a => .bnd (.bnd (getV ρ 11) fun d => .ret (unT d)) fun b => ninAll a b) boolD) (one' fun ρ => .bnd (getV ρ 2) fun d => .ret (unT d))) ((latv es L v).map eN)) (dX (wX X W) L0 zs) = some (.ok (.lst []), dX (wX X W) L0 zs) := by
    refine (cmp_lstM (comp_ifM (g := eN) (p := fun _ => false) (f := eN) fun w hw => ?_) (by rw [filter_none]; simp)).trans (by rw [filter_none]; rfl)
    have e1 : dctB (dX (wX X W) L0 zs) (.ref (2 + X.length)) = none := by
      unfold dctB res
      simp only [wX_get X W L0 zs]
    have e2 : seqB (dX (wX X W) L0 zs) (.ref (2 + X.length)) = some (W.map eN) := by
      unfold seqB res
      simp only [wX_get X W L0 zs]
    have e3 : inB (dX (wX X W) L0 zs) (.int w) (.ref (2 + X.length)) = some true := by
      rw [inB_pl (x := .int w) ⟨rfl, Nat.zero_le _⟩ (pl_nats _) e2]
      congr 1
      simp only [decide_eq_true_eq]
      exact List.mem_map.mpr ⟨w, hW w hw, rfl⟩
    have e4 : ninAll (.int w) (.ref (2 + X.length)) (dX (wX X W) L0 zs) = some (.ok (.bl false), dX (wX X W) L0 zs) := by
      unfold ninAll ninD
      simp only [e1, e3]
      rfl
    unfold turn1
    refine (bnd_M (a := (wipeR (CS S p es L k (2 + X.length) none) [2]).set 2 (some (eN w))) (M1 := dX (wX X W) L0 zs) rfl).trans ?_
    refine (bnd_M (a := false) (M1 := dX (wX X W) L0 zs) ?_).trans rfl
    refine (bnd_M (a := .bl false) (M1 := dX (wX X W) L0 zs) ?_).trans rfl
    refine (bnd_M (a := .int w) (M1 := dX (wX X W) L0 zs) rfl).trans ?_
    refine (bnd_M (a := .ref (2 + X.length)) (M1 := dX (wX X W) L0 zs) rfl).trans ?_
    exact e4
  rw [st_if]
  refine (sE_M (a := false) (M1 := dX (wX X W) L0 zs) ?_).trans rfl
  refine (bnd_M (a := .bl false) (M1 := dX (wX X W) L0 zs) ?_).trans rfl
  refine (bnd_M (a := .lst []) (M1 := dX (wX X W) L0 zs) ?_).trans ?_
  · refine (bnd_M (a := ⟨(latv es L v).map eN, none⟩) (M1 := dX (wX X W) L0 zs) ?_).trans hcomp
    refine (bnd_M (a := lL (latv es L v)) (M1 := dX (wX X W) L0 zs) ?_).trans ?_
    · refine (bnd_M (a := laterD es L) (M1 := dX (wX X W) L0 zs) rfl).trans ?_
      refine (bnd_M (a := .int v) (M1 := dX (wX X W) L0 zs) ?_).trans ?_
      · refine (bnd_M (a := ordD L) (M1 := dX (wX X W) L0 zs) rfl).trans ?_
        refine (bnd_M (a := .int k) (M1 := dX (wX X W) L0 zs) rfl).trans ?_
        rw [s1]; rfl
      · rw [hs]; rfl
    · rfl
  · have l0 : lstD [] = .ret (.lst []) := lst_ok13 [] (by simp)
    refine (bnd_M (a := .lst []) (M1 := dX (wX X W) L0 zs) ?_).trans ?_
    · rw [bnd_r, l0]; rfl
    · rw [ne_nil]; rfl
/-- for each number -/
theorem q5_run (hp : p ≤ 9) (ok : ∀ a ∈ es, a.1 < a.2 ∧ a.2 < p) (o : Ord p L) {S : Option D} {L0 zs : List Int} :
    ∃ (X : Mem) (nu up wy : Option D), q5 (CT S p es L none none none) (dX [] L0 zs) = some (.nx (CT S p es L nu up wy), dX X L0 zs) ∧ NR X := by
  obtain ⟨ρ1, M1, e1, X, nu, up, wy, rfl, rfl, hX⟩ := forL_ind (h := fun d ρ => .ret (ρ.set 3 (some d))) (body := l2_law)
    (fun i ρ M => ∃ (X : Mem) (nu up wy : Option D), ρ = CT S p es L nu up wy ∧ M = dX X L0 zs ∧ NR X)
    ((List.range p).map fun k => .int (k : Nat)) 0 (CT S p es L none none none) (dX [] L0 zs) ⟨[], none, none, none, rfl, rfl, fun o ho => by cases ho⟩ (by
      rintro i dd ρ M hj ⟨X, nu, up, wy, rfl, rfl, hX⟩
      obtain ⟨hj', hd⟩ := List.getElem?_eq_some_iff.mp hj
      simp only [List.length_map, List.length_range] at hj'
      rw [List.getElem_map, List.getElem_range] at hd
      subst hd
      have hL : i < L.length := by rw [o.len]; exact hj'
      obtain ⟨W, z⟩ := way_run hp ok o (S := S) (X := X) (L0 := L0) (zs := zs) (up := up) (wy := wy) (List.getElem?_eq_getElem hL)
      exact ⟨CT S p es L (some (.int i)) up wy, _, rfl, _, _, .inl z, _, _, _, _, rfl, rfl, wX_nr hX W⟩)
  refine ⟨X, nu, up, wy, ?_, hX⟩
  have rn := rngD1_nat (n := p) (by omega)
  unfold q5
  simp only [for_app]
  refine (sE_M (a := ⟨(List.range p).map fun k => .int (k : Nat), none⟩) (M1 := dX [] L0 zs) ?_).trans e1
  refine (bnd_M (a := [.int p]) (M1 := dX [] L0 zs) rfl).trans ?_
  rw [rn]; rfl
theorem q4_run (hp : p ≤ 9) (gr : Gr p es) (o : Ord p L) {S : Option D} {M : Mem} : q4 (CT S p es L none none none) M = some (.nx (CT S p es L none none none), M) := by
  have e1 := ltasks_run (M0 := M) hp gr o
  have tk := task_TK hp gr.ok o
  have e2 := alike_tasks (taskL es L) (by rw [task_len o]; omega)
  have e3 := are_run tk
  unfold q4
  rw [st_if]
  refine (sE_M (a := false) (M1 := M) ?_).trans rfl
  refine (bnd_M (a := false) (M1 := M) ?_).trans ?_
  · refine (bnd_M (a := true) (M1 := M) ?_).trans rfl
    refine (bnd_M (a := .bl true) (M1 := M) ?_).trans rfl
    refine (bnd_M (a := [tasksD (taskL es L), tasksD (taskL es L)]) (M1 := M) ?_).trans ?_
    · refine (bnd_M (a := tasksD (taskL es L)) (M1 := M) rfl).trans ?_
      refine (bnd_M (a := [tasksD (taskL es L)]) (M1 := M) ?_).trans rfl
      refine (bnd_M (a := tasksD (taskL es L)) (M1 := M) ?_).trans rfl
      exact e1
    · rw [e2]; rfl
  · refine (bnd_M (a := .bl false) (M1 := M) ?_).trans rfl
    refine (bnd_M (a := .bl true) (M1 := M) ?_).trans rfl
    show m_are_tasks [tasksD (taskL es L)] M = _
    rw [e3]; rfl
end K67
namespace K67
open DL
variable {p : Nat} {es : List (Nat × Nat)} {L : List Nat}
noncomputable def GS (S : Option D) (p : Nat) (es : List (Nat × Nat)) (L : List Nat) (nu up wy dr so to go od : Option D) : En := LS S (some (.int p)) (some (graD p es)) (some (ordN L)) (some (tasksD (taskL es L))) (some (laterD es L)) nu up wy dr so to go od
theorem tI_ord (l : List Nat) (h : l.length ≤ 900) : tI (ordD l) = true ∧ dpt (ordD l) ≤ 1 := by
  constructor
  · unfold ordD
    rw [tI, Bool.and_eq_true]
    refine ⟨by rw [List.length_map]; exact decide_eq_true h, tIL_all.mpr fun d hd => ?_⟩
    obtain ⟨t, _, rfl⟩ := List.mem_map.mp hd
    rfl
  · unfold ordD
    rw [dpt]
    have : dptL (l.map eN) ≤ 0 := dptL_le fun d hd => by
      obtain ⟨t, _, rfl⟩ := List.mem_map.mp hd
      exact Nat.le_refl 0
    omega
theorem top_len (ts : List Row) : (topL ts).length ≤ ts.length := by
  unfold topL
  have := List.length_filter_le (fun j => decide (parAt ts j = none)) (List.range ts.length)
  rw [List.length_range] at this
  exact this
theorem tI_ch {ts : List Row} (hk : TK ts) : tI (.lst [.tup (chD ts ts.length), ordD (topL ts)]) = true ∧ dpt (.lst [.tup (chD ts ts.length), ordD (topL ts)]) < 9 := by
  have hl := hk.len
  obtain ⟨h1, h2⟩ := tI_ord (topL ts) (by have := top_len ts; omega)
  have h3 : tI (.tup (chD ts ts.length)) = true := by
    rw [tI, Bool.and_eq_true]
    refine ⟨by rw [chD_len]; exact decide_eq_true (by omega), tIL_all.mpr fun d hd => ?_⟩
    unfold chD at hd
    obtain ⟨q, _, rfl⟩ := List.mem_map.mp hd
    exact (tI_ord _ (by have := chl_len (ts := ts) ts.length q; omega)).1
  have h4 : dpt (.tup (chD ts ts.length)) ≤ 2 := by
    rw [dpt]
    have : dptL (chD ts ts.length) ≤ 1 := dptL_le fun d hd => by
      unfold chD at hd
      obtain ⟨q, _, rfl⟩ := List.mem_map.mp hd
      exact (tI_ord _ (by have := chl_len (ts := ts) ts.length q; omega)).2
    omega
  constructor
  · rw [tI, tIL, tIL, tIL, h3, h1]
    rfl
  · rw [dpt, dptL, dptL, dptL]
    omega
theorem l3_tasks {ts : List Row} (hk : TK ts) {S nu up wy dr to go od : Option D} {M : Mem} :
    l3_law (GS S p es L nu up wy dr (some (tasksD ts)) to go od) M = some (.nx (GS S p es L nu up wy dr (some (tasksD ts)) (some (ordD (topL ts))) go od), M) := by
  have hl := hk.len
  have rn := rngD1_nat (n := ts.length) (by omega)
  have e1 := are_run hk
  have e2 := children_run (M0 := M) hk
  have e3 := tops_run hk
  have e4 := lchildren_run hk
  have e5 := alike_run 9 _ (tI_ch hk).1 (tI_ch hk).2
  unfold l3_law
  refine (run_seq (ρ1 := GS S p es L nu up wy dr (some (tasksD ts)) (some (ordD (topL ts))) go od) (M1 := M) ?_).trans ?_
  · refine (sE_M (a := ordD (topL ts)) (M1 := M) ?_).trans rfl
    refine (bnd_M (a := [.lst ((topL ts).map eN)]) (M1 := M) ?_).trans rfl
    refine (bnd_M (a := .lst ((topL ts).map eN)) (M1 := M) ?_).trans rfl
    refine (bnd_M (a := ⟨(List.range ts.length).map fun k => .int (k : Nat), none⟩) (M1 := M) ?_).trans ?_
    · refine (bnd_M (a := [.int ts.length]) (M1 := M) ?_).trans ?_
      · refine (bnd_M (a := .int ts.length) (M1 := M) ?_).trans rfl
        refine (bnd_M (a := [tasksD ts]) (M1 := M) rfl).trans ?_
        show lenD (tasksD ts) M = _
        rw [len_tasks]; rfl
      · rw [rn]; rfl
    · refine cmp_lstM (comp_ifM (g := fun k : Nat => D.int k) (p := fun j => decide (parAt ts j = none)) (f := eN) fun j hj => ?_) (by have := top_len ts; rw [List.length_map]; show (topL ts).length ≤ 1000000; omega)
      rw [List.mem_range] at hj
      have hpa := parAt_get hj
      unfold turn1
      refine (bnd_M (a := (wipeR (GS S p es L nu up wy dr (some (tasksD ts)) to go od) [3]).set 3 (some (.int j))) (M1 := M) rfl).trans ?_
      refine (bnd_M (a := decide (parAt ts j = none)) (M1 := M) ?_).trans ?_
      · refine (bnd_M (a := .bl (decide (parAt ts j = none))) (M1 := M) ?_).trans rfl
        refine (bnd_M (a := optD ts[j].1) (M1 := M) ?_).trans ?_
        · refine (bnd_M (a := rowD ts[j]) (M1 := M) ?_).trans ?_
          · refine (bnd_M (a := tasksD ts) (M1 := M) rfl).trans ?_
            refine (bnd_M (a := .int j) (M1 := M) rfl).trans ?_
            rw [sub_tasks hj]; rfl
          · refine (bnd_M (a := .int 0) (M1 := M) rfl).trans ?_
            rw [row_0]; rfl
        · refine (bnd_M (a := .non) (M1 := M) rfl).trans ?_
          rw [opt_is, hpa]; rfl
      · cases decide (parAt ts j = none) <;> rfl
  · rw [st_if]
    refine (sE_M (a := false) (M1 := M) ?_).trans rfl
    refine (bnd_M (a := false) (M1 := M) ?_).trans ?_
    · refine (bnd_M (a := .bl false) (M1 := M) ?_).trans rfl
      refine (bnd_M (a := .bl true) (M1 := M) ?_).trans rfl
      show m_are_tasks [tasksD ts] M = _
      rw [e1]; rfl
    · refine (bnd_M (a := true) (M1 := M) ?_).trans rfl
      refine (bnd_M (a := .bl true) (M1 := M) ?_).trans rfl
      refine (bnd_M (a := [.lst [.tup (chD ts ts.length), ordD (topL ts)], .lst [.tup (chD ts ts.length), ordD (topL ts)]]) (M1 := M) ?_).trans ?_
      · refine (bnd_M (a := .lst [.tup (chD ts ts.length), ordD (topL ts)]) (M1 := M) ?_).trans ?_
        · refine (bnd_M (a := [.tup (chD ts ts.length), ordD (topL ts)]) (M1 := M) ?_).trans ?_
          · refine (bnd_M (a := .tup (chD ts ts.length)) (M1 := M) e2).trans ?_
            refine (bnd_M (a := [ordD (topL ts)]) (M1 := M) ?_).trans rfl
            refine (bnd_M (a := ordD (topL ts)) (M1 := M) ?_).trans rfl
            show m_tops_in [tasksD ts] M = _
            rw [e3]; rfl
          · rw [lst_ok13 _ (by simp)]; rfl
        · refine (bnd_M (a := [.lst [.tup (chD ts ts.length), ordD (topL ts)]]) (M1 := M) ?_).trans rfl
          refine (bnd_M (a := .lst [.tup (chD ts ts.length), ordD (topL ts)]) (M1 := M) ?_).trans rfl
          refine (bnd_M (a := [.tup (chD ts ts.length), ordD (topL ts)]) (M1 := M) ?_).trans ?_
          · refine (bnd_M (a := .tup (chD ts ts.length)) (M1 := M) ?_).trans rfl
            refine (bnd_M (a := [.lst (chD ts ts.length)]) (M1 := M) ?_).trans rfl
            refine (bnd_M (a := .lst (chD ts ts.length)) (M1 := M) ?_).trans rfl
            show m__law_children [tasksD ts] M = _
            rw [e4]; rfl
          · rw [lst_ok13 _ (by simp)]; rfl
      · rw [e5]; rfl
theorem q7_run {ts : List Row} (hp : p ≤ 9) (gr : Gr p es) (o : Ord p L) (hk : TK ts) {S nu up wy go od : Option D} {M : Mem} :
    ∃ so to, q7 (GS S p es L nu up wy (some (tasksD ts)) none none go od) M = some (.nx (GS S p es L nu up wy (some (tasksD ts)) so to go od), M) := by
  refine ⟨some (tasksD ts), some (ordD (topL ts)), ?_⟩
  unfold q7
  simp only [for_app]
  refine (sE_M (a := ⟨[tasksD (taskL es L), tasksD ts], none⟩) (M1 := M) ?_).trans ?_
  · refine (bnd_M (a := .lst [tasksD (taskL es L), tasksD ts]) (M1 := M) ?_).trans rfl
    refine (bnd_M (a := [tasksD (taskL es L), tasksD ts]) (M1 := M) rfl).trans ?_
    rw [lst_ok13 _ (by simp)]; rfl
  · rw [forL_cons]
    show turnK (l3_law (GS S p es L nu up wy (some (tasksD ts)) (some (tasksD (taskL es L))) none go od) M) _ = _
    rw [l3_tasks (task_TK hp gr.ok o)]
    show forL none (fun d ρ => .ret (ρ.set 13 (some d))) l3_law [tasksD ts] (GS S p es L nu up wy (some (tasksD ts)) (some (tasksD (taskL es L))) (some (ordD (topL (taskL es L)))) go od) M = _
    rw [forL_cons]
    show turnK (l3_law (GS S p es L nu up wy (some (tasksD ts)) (some (tasksD ts)) _ go od) M) _ = _
    rw [l3_tasks hk]
    exact forL_nil (fun d ρ => .ret (ρ.set 13 (some d))) l3_law _ M
end K67
namespace K67
open DL
variable {p : Nat} {es : List (Nat × Nat)} {L : List Nat}
def r1 : D := .tup [.int 1, .int 5, .int 2]
def r2 : D := .tup [.non, .int 3, .int 0]
def goodD : D := .tup [r1, r2]
def t3 (a b c : D) : D := .tup [.tup [a, b, c], r2]
def odd1 : List D := [.non, .lst [r1, r2], .tup [r1, r2, .non], .tup [r1, r2, .tup [.non, .int 1]], .tup [r1, r2, .tup [.non, .int 1, .int 0, .int 0]], .tup [r1, r2, .lst [.non, .int 1, .int 0]], t3 (.int 2) (.int 5) (.int 2)]
def odd2 : List D := [t3 (.int 0) (.int 5) (.int 2), t3 (.int (-1)) (.int 5) (.int 2)]
def odd3 : List D := [t3 (.bl true) (.int 5) (.int 2), t3 (.str "1") (.int 5) (.int 2), t3 (.int 1) (.int 5) (.int 6), t3 (.int 1) (.int (-1)) (.int 0), t3 (.int 1) (.int 5) (.int (-1)), t3 (.int 1) (.int 1000001) (.int 0)]
def odd4 : List D := [t3 (.int 1) .non (.int 0), .tup [r1, .tup [.int 1, .int 3, .int 0]], .tup [r1], .tup (List.replicate 61 (.tup [.non, .int 0, .int 0])), .int 5]
theorem tup_4 (a b c d : D) : tupD [a, b, c, d] = .ret (.tup [a, b, c, d]) := tup_ok (small_len (by simp))
theorem tup_0 : tupD [] = .ret (.tup []) := tup_ok (small_len (by simp))
theorem add_tup {a b : List D} (h : a.length + b.length ≤ PySem.sizeLine) : addD (.tup a) (.tup b) = .ret (.tup (a ++ b)) := by
  funext M
  unfold addD
  have e : lenOk (a.length + b.length) = true := decide_eq_true h
  simp only [res, e, cond_true]
  rfl
theorem rep_tup {x : D} {k : Nat} (hk : k ≤ 1000) : repD false (.tup [x]) (.int k) = .ret (.tup (List.replicate k x)) := by
  funext M
  unfold repD
  have h : (decide (-1000 ≤ (k : Int)) && decide ((k : Int) ≤ 1000) && decide ([x].length ≤ 1000)) = true := by
    simp; omega
  simp only [h, cond_true, rep_len]
  rfl
theorem good_add (d : D) : addD goodD (.tup [d]) = .ret (.tup [r1, r2, d]) := add_tup (small_len (by simp))
theorem good_fr : sliceD goodD (some 1) none = .ret (.tup [r2]) := by
  unfold goodD
  rw [slice_tup, show (1 : Int) = ((1 : Nat) : Int) from rfl, cut_from]
  rfl
theorem good_to : sliceD goodD none (some 1) = .ret (.tup [r1]) := by
  unfold goodD
  rw [slice_tup, show (1 : Int) = ((1 : Nat) : Int) from rfl, cut_to (by simp)]
  rfl
theorem one_add (a b : D) : addD (.tup [a]) (.tup [b]) = .ret (.tup [a, b]) := add_tup (small_len (by simp))
theorem q8_run {S nu up wy dr so to od : Option D} {M : Mem} : q8 (GS S p es L nu up wy dr so to none od) M = some (.nx (GS S p es L nu up wy dr so to (some goodD) od), M) := by
  unfold q8
  simp -implicitDefEqProofs [GS, LS]
  rfl
theorem q9_run {S nu up wy dr so to : Option D} {M : Mem} : q9 (GS S p es L nu up wy dr so to (some goodD) none) M = some (.nx (GS S p es L nu up wy dr so to (some goodD) (some (.lst odd1))), M) := by
  have l1 : listA false goodD = .ret (.lst [r1, r2]) := rfl
  have h3 : lstD [.non, .int 1, .int 0] = .ret (.lst [.non, .int 1, .int 0]) := lst_ok13 _ (by simp)
  unfold q9
  simp -implicitDefEqProofs [GS, LS, l1, good_add, good_fr, tup_4, h3, one_add, lst_ok13]
  rfl
theorem q10_run {S nu up wy dr so to : Option D} {M : Mem} : q10 (GS S p es L nu up wy dr so to (some goodD) (some (.lst odd1))) M = some (.nx (GS S p es L nu up wy dr so to (some goodD) (some (.lst (odd1 ++ odd2)))), M) := by
  have a : ∀ l : List D, l.length ≤ 10 → addD (.lst odd1) (.lst l) = .ret (.lst (odd1 ++ l)) := fun l h => add_lst (small_len (by show 7 + l.length ≤ 1000000; omega))
  unfold q10
  simp -implicitDefEqProofs [GS, LS, good_fr, one_add, lst_ok13, a]
  rfl
theorem pow_6 : powD (.int 10) (.int 6) = .ret (.int 1000000) := by unfold powD DL.intOp; rfl
theorem q11_run {S nu up wy dr so to : Option D} {M : Mem} : q11 (GS S p es L nu up wy dr so to (some goodD) (some (.lst (odd1 ++ odd2)))) M = some (.nx (GS S p es L nu up wy dr so to (some goodD) (some (.lst (odd1 ++ odd2 ++ odd3)))), M) := by
  have a : ∀ l : List D, l.length ≤ 10 → addD (.lst (odd1 ++ odd2)) (.lst l) = .ret (.lst (odd1 ++ odd2 ++ l)) := fun l h => add_lst (small_len (by show 9 + l.length ≤ 1000000; omega))
  unfold q11
  simp -implicitDefEqProofs [GS, LS, good_fr, one_add, lst_ok13, a, pow_6]
  rfl
theorem q12_run {S nu up wy dr so to : Option D} {M : Mem} : q12 (GS S p es L nu up wy dr so to (some goodD) (some (.lst (odd1 ++ odd2 ++ odd3)))) M = some (.nx (GS S p es L nu up wy dr so to (some goodD) (some (.lst (odd1 ++ odd2 ++ odd3 ++ odd4)))), M) := by
  have a : ∀ l : List D, l.length ≤ 10 → addD (.lst (odd1 ++ odd2 ++ odd3)) (.lst l) = .ret (.lst (odd1 ++ odd2 ++ odd3 ++ l)) := fun l h => add_lst (small_len (by show 15 + l.length ≤ 1000000; omega))
  have rp := rep_tup (x := .tup [.non, .int 0, .int 0]) (k := 61) (by omega)
  rw [show ((61 : Nat) : Int) = 61 from rfl] at rp
  unfold q12
  simp -implicitDefEqProofs [GS, LS, good_fr, good_to, one_add, lst_ok13, a, rp]
  rfl
end K67
namespace K67
open DL
variable {p : Nat} {es : List (Nat × Nat)} {L : List Nat}
theorem are_t {l : List D} (b : Bool) (h : l.all rowT = true) (e : (decide (l.length ≤ 60) && rowsOk l.length 0 l) = b) : m_are_tasks [.tup l] = .ret (.bl b) := by
  rw [are_tup (fun d hd => List.all_eq_true.mp h d hd), e]
def oddAll : List D := odd1 ++ odd2 ++ odd3 ++ odd4
theorem odd_run : ∀ d ∈ oddAll, m_are_tasks [d] = .ret (.bl false) := by
  intro d hd
  simp only [oddAll, odd1, odd2, odd3, odd4, List.mem_append, List.mem_cons, List.not_mem_nil, or_false] at hd
  rcases hd with ((hd | hd) | hd) | hd
  · rcases hd with rfl | rfl | rfl | rfl | rfl | rfl | rfl
    · exact are_non
    · exact are_lst _
    · exact are_t false rfl rfl
    · exact are_t false rfl rfl
    · exact are_t false rfl rfl
    · exact are_t false rfl rfl
    · exact are_t false rfl rfl
  · rcases hd with rfl | rfl
    · exact are_t false rfl rfl
    · exact are_t false rfl rfl
  · rcases hd with rfl | rfl | rfl | rfl | rfl | rfl
    · exact are_t false rfl rfl
    · exact are_t false rfl rfl
    · exact are_t false rfl rfl
    · exact are_t false rfl rfl
    · exact are_t false rfl rfl
    · exact are_t false rfl rfl
  · rcases hd with rfl | rfl | rfl | rfl | rfl
    · exact are_t false rfl rfl
    · exact are_t false rfl rfl
    · exact are_t false rfl rfl
    · exact are_t false rfl rfl
    · exact are_int 5
theorem q13_run {S nu up wy dr so to : Option D} {M : Mem} : q13 (GS S p es L nu up wy dr so to (some goodD) (some (.lst oddAll))) M = some (.nx (GS S p es L nu up wy dr so to (some goodD) (some (.lst oddAll))), M) := by
  unfold q13
  rw [st_if]
  refine (sE_M (a := false) (M1 := M) ?_).trans rfl
  refine (bnd_M (a := .bl false) (M1 := M) ?_).trans rfl
  refine (bnd_M (a := .lst []) (M1 := M) ?_).trans ?_
  · refine (bnd_M (a := ⟨oddAll.map id, none⟩) (M1 := M) (by rw [List.map_id]; rfl)).trans ?_
    refine (cmp_lstM (comp_ifM (g := id) (p := fun _ => false) (f := id) fun d hd => ?_) (by rw [filter_none]; simp)).trans (by rw [filter_none]; rfl)
    unfold turn1
    refine (bnd_M (a := (wipeR (GS S p es L nu up wy dr so to (some goodD) (some (.lst oddAll))) [1]).set 1 (some d)) (M1 := M) rfl).trans ?_
    refine (bnd_M (a := false) (M1 := M) ?_).trans rfl
    refine (bnd_M (a := .bl false) (M1 := M) ?_).trans rfl
    refine (bnd_M (a := .bl false) (M1 := M) ?_).trans rfl
    show m_are_tasks [d] M = _
    rw [odd_run d hd]; rfl
  · refine (bnd_M (a := .lst []) (M1 := M) ?_).trans ?_
    · rw [bnd_r, lst_ok13 [] (by simp)]; rfl
    · rw [ne_nil]; rfl
def goods : List D := [.tup [], goodD, .tup (List.replicate 60 (.tup [.non, .int 0, .int 0])), .tup [.tup [.int 1, .int 1000000, .int 1000000], .tup [.non, .int 0, .int 0]]]
theorem goods_run : ∀ d ∈ goods, m_are_tasks [d] = .ret (.bl true) := by
  intro d hd
  simp only [goods, List.mem_cons, List.not_mem_nil, or_false] at hd
  rcases hd with rfl | rfl | rfl | rfl
  · exact are_t true rfl rfl
  · exact are_t true rfl rfl
  · exact are_t true rfl rfl
  · exact are_t true rfl rfl
theorem q14_run {S nu up wy dr so to : Option D} {M : Mem} : q14 (GS S p es L nu up wy dr so to (some goodD) (some (.lst oddAll))) M = some (.ret (.bl true), M) := by
  have rp := rep_tup (x := .tup [.non, .int 0, .int 0]) (k := 60) (by omega)
  rw [show ((60 : Nat) : Int) = 60 from rfl] at rp
  have hl : lstD goods = .ret (.lst goods) := lst_ok13 _ (by show 4 ≤ 13; omega)
  unfold q14
  refine (sE_M (a := .bl true) (M1 := M) ?_).trans rfl
  refine (bnd_M (a := .lst []) (M1 := M) ?_).trans ?_
  · refine (bnd_M (a := ⟨goods.map id, none⟩) (M1 := M) ?_).trans ?_
    · rw [List.map_id]
      refine (bnd_M (a := .lst goods) (M1 := M) ?_).trans rfl
      refine (bnd_M (a := goods) (M1 := M) ?_).trans (by rw [hl]; rfl)
      simp -implicitDefEqProofs [GS, LS, tup_0, rp, pow_6]
      rfl
    · refine (cmp_lstM (comp_ifM (g := id) (p := fun _ => false) (f := id) fun d hd => ?_) (by rw [filter_none]; simp)).trans (by rw [filter_none]; rfl)
      unfold turn1
      refine (bnd_M (a := (wipeR (GS S p es L nu up wy dr so to (some goodD) (some (.lst oddAll))) [1]).set 1 (some d)) (M1 := M) rfl).trans ?_
      refine (bnd_M (a := false) (M1 := M) ?_).trans rfl
      refine (bnd_M (a := .bl false) (M1 := M) ?_).trans rfl
      refine (bnd_M (a := .bl true) (M1 := M) ?_).trans rfl
      show m_are_tasks [d] M = _
      rw [goods_run d hd]; rfl
  · refine (bnd_M (a := .lst []) (M1 := M) ?_).trans ?_
    · rw [bnd_r, lst_ok13 [] (by simp)]; rfl
    · rw [eq_nil]; rfl
theorem law_run (ns : List Int) (h : ns.length ≤ 63) : ∃ M', m_law [.lst (ns.map .int)] [] = some (.ok (.bl true), M') := by
  refine ⟨[], ?_⟩
  suffices hg : ∃ M', g_law (startE N_law [.lst (ns.map .int)]) [] = some (.ret (.bl true), M') by
    obtain ⟨M', hg⟩ := hg
    unfold m_law fnD
    rw [hg]
    exact fnR_ret rfl (by simp)
  have nr0 : NR [] := fun o ho => by cases ho
  obtain ⟨xs, L0, e0⟩ := draws_run ns h
  have e0 : m__law_draws [.lst (ns.map .int)] [] = some (.ok (.ref 1), dX [] L0 xs) := e0
  obtain ⟨p, x1, e1, hp⟩ := take_nat nr0 L0 xs (b := 9) (by decide)
  have hp9 : p ≤ 9 := by omega
  obtain ⟨c, x2, e2, hc⟩ := take_nat nr0 L0 x1 (b := 3) (by decide)
  obtain ⟨many, hmany⟩ : ∃ many : Int, subD' (.lst [.int 15, .int 30, .int 60]) (.int c) = .ret (.int many) := by
    have hc3 : c < 3 := by omega
    match c, hc3 with
    | 0, _ => exact ⟨15, sub_lst (atD_nat (n := 0) rfl)⟩
    | 1, _ => exact ⟨30, sub_lst (atD_nat (n := 1) rfl)⟩
    | 2, _ => exact ⟨60, sub_lst (atD_nat (n := 2) rfl)⟩
  obtain ⟨es, x3, e3, gr⟩ := graph_run (many := many) (L0 := L0) (xs := x2) hp9
  obtain ⟨L, x4, e4, o⟩ := order_run (L0 := L0) (xs := x3) hp9
  have e5 := tasks_of_run (M0 := dX [] L0 x4) (dX_nr nr0 L0 x4) hp9 gr o
  have e6 := law_filled_run (M0 := dX [] L0 x4) hp9 gr o
  obtain ⟨S, eS⟩ : ∃ S, some (D.lst (ns.map .int)) = S := ⟨_, rfl⟩
  have hlt := task_len (es := es) o
  rw [g_law_split]
  have k0 : q0 (startE N_law [.lst (ns.map .int)]) [] = some (.nx (LS S none none none none none none none none none none none none none), dX [] L0 xs) := by
    rw [← eS]
    unfold q0
    refine (sE_M (a := .ref 1) (M1 := dX [] L0 xs) ?_).trans rfl
    exact e0
  have k1 : q1 (LS S none none none none none none none none none none none none none) (dX [] L0 xs) = some (.nx (LS S (some (.int p)) none none none none none none none none none none none none), dX [] L0 x1) := by
    unfold q1
    refine (sE_M (a := .int p) (M1 := dX [] L0 x1) ?_).trans rfl
    exact e1
  have k2 : q2 (LS S (some (.int p)) none none none none none none none none none none none none) (dX [] L0 x1) = some (.nx (LS S (some (.int p)) (some (graD p es)) (some (ordN L)) none none none none none none none none none none), dX [] L0 x4) := by
    unfold q2
    refine (sE_M (a := [graD p es, ordN L]) (M1 := dX [] L0 x4) ?_).trans rfl
    refine (bnd_M (a := graD p es) (M1 := dX [] L0 x3) ?_).trans ?_
    · refine (bnd_M (a := [.ref 1, .int p, .int many]) (M1 := dX [] L0 x2) ?_).trans e3
      refine (bnd_M (a := .ref 1) (M1 := dX [] L0 x1) rfl).trans ?_
      refine (bnd_M (a := [.int p, .int many]) (M1 := dX [] L0 x2) ?_).trans rfl
      refine (bnd_M (a := .int p) (M1 := dX [] L0 x1) rfl).trans ?_
      refine (bnd_M (a := [.int many]) (M1 := dX [] L0 x2) ?_).trans rfl
      refine (bnd_M (a := .int many) (M1 := dX [] L0 x2) ?_).trans rfl
      refine (bnd_M (a := .lst [.int 15, .int 30, .int 60]) (M1 := dX [] L0 x1) ?_).trans ?_
      · refine (bnd_M (a := [.int 15, .int 30, .int 60]) (M1 := dX [] L0 x1) rfl).trans ?_
        rw [lst_ok13 _ (by simp)]; rfl
      · refine (bnd_M (a := .int c) (M1 := dX [] L0 x2) e2).trans ?_
        rw [hmany]; rfl
    · refine (bnd_M (a := [ordN L]) (M1 := dX [] L0 x4) ?_).trans rfl
      refine (bnd_M (a := ordN L) (M1 := dX [] L0 x4) ?_).trans rfl
      exact e4
  have k3 : q3 (LS S (some (.int p)) (some (graD p es)) (some (ordN L)) none none none none none none none none none none) (dX [] L0 x4) = some (.nx (CT S p es L none none none), dX [] L0 x4) := by
    unfold q3
    refine (sE_M (a := [tasksD (taskL es L), laterD es L]) (M1 := dX [] L0 x4) ?_).trans rfl
    refine (bnd_M (a := tasksD (taskL es L)) (M1 := dX [] L0 x4) ?_).trans ?_
    · exact e5
    · refine (bnd_M (a := [laterD es L]) (M1 := dX [] L0 x4) ?_).trans rfl
      refine (bnd_M (a := laterD es L) (M1 := dX [] L0 x4) ?_).trans rfl
      exact e6
  obtain ⟨X, nu, up, wy, k5, hX⟩ := q5_run hp9 gr.ok o (S := S) (L0 := L0) (zs := x4)
  obtain ⟨ts, x5, e7, hk⟩ := law_tasks_run hX L0 x4
  have k6 : q6 (CT S p es L nu up wy) (dX X L0 x4) = some (.nx (GS S p es L nu up wy (some (tasksD ts)) none none none none), dX X L0 x5) := by
    unfold q6
    refine (sE_M (a := tasksD ts) (M1 := dX X L0 x5) ?_).trans rfl
    exact e7
  obtain ⟨so, to, k7⟩ := q7_run hp9 gr o hk (S := S) (nu := nu) (up := up) (wy := wy) (go := none) (od := none) (M := dX X L0 x5)
  refine ⟨dX X L0 x5, ?_⟩
  rw [run_seq k0, run_seq k1, run_seq k2, run_seq k3, run_seq (q4_run hp9 gr o), run_seq k5, run_seq k6, run_seq k7, run_seq q8_run, run_seq q9_run, run_seq q10_run, run_seq q11_run, run_seq q12_run]
  show sSeq q13 q14 (GS S p es L nu up wy (some (tasksD ts)) so to (some goodD) (some (.lst oddAll))) (dX X L0 x5) = _
  rw [run_seq q13_run]
  exact q14_run
end K67
namespace K67
open PySem PySem.Spec PyProof.Rows L2 DL
def d_is_number : He.DefD := ⟨("is_number", none), "is_number", "is_number", defArgs (top 4), defBody (top 4), defScope (top 4), [], []⟩
def d_is_order : He.DefD := ⟨("is_order", none), "is_order", "is_order", defArgs (top 6), defBody (top 6), defScope (top 6), [], []⟩
def d_turned : He.DefD := ⟨("turned", none), "turned", "turned", defArgs (top 7), defBody (top 7), defScope (top 7), [], []⟩
def d_neighbours : He.DefD := ⟨("neighbours", none), "neighbours", "neighbours", defArgs (top 9), defBody (top 9), defScope (top 9), [], []⟩
def d_check_order : He.DefD := ⟨("check_order", none), "check_order", "check_order", defArgs (top 11), defBody (top 11), defScope (top 11), [], []⟩
def d_eliminated : He.DefD := ⟨("eliminated", none), "eliminated", "eliminated", defArgs (top 12), defBody (top 12), defScope (top 12), [], []⟩
def d_fill_of : He.DefD := ⟨("fill_of", none), "fill_of", "fill_of", defArgs (top 13), defBody (top 13), defScope (top 13), [], []⟩
def d_filled : He.DefD := ⟨("filled", none), "filled", "filled", defArgs (top 14), defBody (top 14), defScope (top 14), [], []⟩
def d_later_of : He.DefD := ⟨("later_of", none), "later_of", "later_of", defArgs (top 15), defBody (top 15), defScope (top 15), [], []⟩
def d_are_tasks : He.DefD := ⟨("are_tasks", none), "are_tasks", "are_tasks", defArgs (top 19), defBody (top 19), defScope (top 19), [], []⟩
def d_children_in : He.DefD := ⟨("children_in", none), "children_in", "children_in", defArgs (top 20), defBody (top 20), defScope (top 20), [], []⟩
def d_tops_in : He.DefD := ⟨("tops_in", none), "tops_in", "tops_in", defArgs (top 21), defBody (top 21), defScope (top 21), [], []⟩
def d_tasks_of : He.DefD := ⟨("tasks_of", none), "tasks_of", "tasks_of", defArgs (top 22), defBody (top 22), defScope (top 22), [], []⟩
def d__law_draws : He.DefD := ⟨("_law_draws", none), "_law_draws", "_law_draws", defArgs (top 24), defBody (top 24), defScope (top 24), [], []⟩
def d__law_take : He.DefD := ⟨("_law_take", none), "_law_take", "_law_take", defArgs (top 25), defBody (top 25), defScope (top 25), [], []⟩
def d__law_alike : He.DefD := ⟨("_law_alike", none), "_law_alike", "_law_alike", defArgs (top 26), defBody (top 26), defScope (top 26), [], []⟩
def d__law_graph : He.DefD := ⟨("_law_graph", none), "_law_graph", "_law_graph", defArgs (top 27), defBody (top 27), defScope (top 27), [], []⟩
def d__law_shuffled : He.DefD := ⟨("_law_shuffled", none), "_law_shuffled", "_law_shuffled", defArgs (top 28), defBody (top 28), defScope (top 28), [], []⟩
def d__law_tasks : He.DefD := ⟨("_law_tasks", none), "_law_tasks", "_law_tasks", defArgs (top 29), defBody (top 29), defScope (top 29), [], []⟩
def d__law_children : He.DefD := ⟨("_law_children", none), "_law_children", "_law_children", defArgs (top 30), defBody (top 30), defScope (top 30), [], []⟩
def d__law_filled : He.DefD := ⟨("_law_filled", none), "_law_filled", "_law_filled", defArgs (top 31), defBody (top 31), defScope (top 31), [], []⟩
def d__law_tasks_of : He.DefD := ⟨("_law_tasks_of", none), "_law_tasks_of", "_law_tasks_of", defArgs (top 32), defBody (top 32), defScope (top 32), [], []⟩
def d__law_order : He.DefD := ⟨("_law_order", none), "_law_order", "_law_order", defArgs (top 33), defBody (top 33), defScope (top 33), [], []⟩
def d_law : He.DefD := ⟨("law", none), "law", "law", defArgs (top 34), defBody (top 34), defScope (top 34), [], []⟩
def fn : List He.DefD := [d_is_number, d_is_order, d_turned, d_neighbours, d_check_order, d_eliminated, d_fill_of, d_filled, d_later_of, d_are_tasks, d_children_in, d_tops_in, d_tasks_of, d__law_draws, d__law_take, d__law_alike, d__law_graph, d__law_shuffled, d__law_tasks, d__law_children, d__law_filled, d__law_tasks_of, d__law_order, d_law]
def fa0 : List He.Fa := [.glo "is_number", .glo "is_order", .glo "turned", .glo "neighbours", .glo "check_order", .glo "eliminated", .glo "fill_of", .glo "filled", .glo "later_of", .glo "are_tasks", .glo "children_in", .glo "tops_in", .glo "tasks_of", .glo "_law_draws", .glo "_law_take", .glo "_law_alike", .glo "_law_graph", .glo "_law_shuffled", .glo "_law_tasks", .glo "_law_children", .glo "_law_filled", .glo "_law_tasks_of", .glo "_law_order", .glo "law", .free "abs", .free "all", .free "bool", .free "enumerate", .free "int", .free "isinstance"]
def fa1 : List He.Fa := [.free "len", .free "list", .free "min", .free "range", .free "reversed", .free "set", .free "sorted", .free "str", .free "tuple", .int "MOST_TASKS" (60), .int "MOST_CELLS" (1000000), .glo "Malformed", .exc "Malformed"]
def fa : List He.Fa := fa0 ++ fa1
def tg : List He.Defn := [("is_order", none)]
def tl : List (He.Defn × Str) := [(("later_of", none), ("later_of" : Str) ++ ".<locals>." ++ "<lambda>")]
def tf : List He.Defn := [("is_order", none), ("later_of", none)]
def ex (K : PySem.W.Frag) : Bool := (lamsB K tg (tl.map (·.1)))
abbrev R : PySem.W.OpenRow := PySem.W.OpenLaw.row PySem.Challenge.rw_factorsagree_k67_whole_tasks_of_orders
abbrev hk : PySem.W.Hook := He.hookX 5 fa fn [] tf ex
def ob (s : PySem.W.SharedT) : He.AlX := He.obsX 5 fa fn [] tf ex (HandSHeadRun.getT s)
theorem ob_eq (s : PySem.W.SharedT) : ob s = hk.obs s.abs := He.obsX_eq (HandSHeadRun.getT_eq s)
def nms0 : List Str := ["FactorError", "Malformed", "is_number", "is_order", "turned", "neighbours", "check_order", "eliminated", "fill_of", "filled", "later_of", "MOST_TASKS", "MOST_CELLS", "are_tasks", "children_in", "tops_in", "tasks_of", "_law_draws", "_law_take", "_law_alike", "_law_graph", "_law_shuffled", "_law_tasks", "_law_children", "_law_filled", "_law_tasks_of", "_law_order"]
def nms : List Str := nms0
theorem run (w : World) : HandSHeadRun.RunEq R (PySem.W.view R.prog [34]) hk ob 4000 nms w := by
  intro os
  kernel_rfl
theorem gl_of {P : Program} {w : World} {K : PySem.W.Frag} {h : Heap} {mg : Str → Option Value} (X : K.In h) (G : h.Ns mainGlobals mg) (c : He.SaysX fa fn [] tf ex w h K) (F0 : FuncData) (base : Heap) (hT : ∀ p ∈ tf.map (He.cT K), GxR.TabB base mg p.1 p.2) :
    Gl ⟨P, w, K, mg, base, tg.map (He.cT K), lamsL K tl⟩ (He.ga K) (fdAt K F0) (fun x => He.cT K (x, none)) := by
  have c1 := c.t.d
  have F_is_number := fd_at c1 F0 0 (d := d_is_number) (x := "is_number") rfl rfl
  have F_is_order := fd_at c1 F0 1 (d := d_is_order) (x := "is_order") rfl rfl
  have F_turned := fd_at c1 F0 2 (d := d_turned) (x := "turned") rfl rfl
  have F_neighbours := fd_at c1 F0 3 (d := d_neighbours) (x := "neighbours") rfl rfl
  have F_check_order := fd_at c1 F0 4 (d := d_check_order) (x := "check_order") rfl rfl
  have F_eliminated := fd_at c1 F0 5 (d := d_eliminated) (x := "eliminated") rfl rfl
  have F_fill_of := fd_at c1 F0 6 (d := d_fill_of) (x := "fill_of") rfl rfl
  have F_filled := fd_at c1 F0 7 (d := d_filled) (x := "filled") rfl rfl
  have F_later_of := fd_at c1 F0 8 (d := d_later_of) (x := "later_of") rfl rfl
  have F_are_tasks := fd_at c1 F0 9 (d := d_are_tasks) (x := "are_tasks") rfl rfl
  have F_children_in := fd_at c1 F0 10 (d := d_children_in) (x := "children_in") rfl rfl
  have F_tops_in := fd_at c1 F0 11 (d := d_tops_in) (x := "tops_in") rfl rfl
  have F_tasks_of := fd_at c1 F0 12 (d := d_tasks_of) (x := "tasks_of") rfl rfl
  have F__law_draws := fd_at c1 F0 13 (d := d__law_draws) (x := "_law_draws") rfl rfl
  have F__law_take := fd_at c1 F0 14 (d := d__law_take) (x := "_law_take") rfl rfl
  have F__law_alike := fd_at c1 F0 15 (d := d__law_alike) (x := "_law_alike") rfl rfl
  have F__law_graph := fd_at c1 F0 16 (d := d__law_graph) (x := "_law_graph") rfl rfl
  have F__law_shuffled := fd_at c1 F0 17 (d := d__law_shuffled) (x := "_law_shuffled") rfl rfl
  have F__law_tasks := fd_at c1 F0 18 (d := d__law_tasks) (x := "_law_tasks") rfl rfl
  have F__law_children := fd_at c1 F0 19 (d := d__law_children) (x := "_law_children") rfl rfl
  have F__law_filled := fd_at c1 F0 20 (d := d__law_filled) (x := "_law_filled") rfl rfl
  have F__law_tasks_of := fd_at c1 F0 21 (d := d__law_tasks_of) (x := "_law_tasks_of") rfl rfl
  have F__law_order := fd_at c1 F0 22 (d := d__law_order) (x := "_law_order") rfl rfl
  have F_law := fd_at c1 F0 23 (d := d_law) (x := "law") rfl rfl
  have e0 : ex K = true := c.more
  unfold ex at e0
  have e_0 := e0
  exact {
    n_abs := He.free_ok X G (c1.fact 24 (f := .free "abs") rfl)
    n_all := He.free_ok X G (c1.fact 25 (f := .free "all") rfl)
    n_bool := He.free_ok X G (c1.fact 26 (f := .free "bool") rfl)
    n_enumerate := He.free_ok X G (c1.fact 27 (f := .free "enumerate") rfl)
    n_int := He.free_ok X G (c1.fact 28 (f := .free "int") rfl)
    n_isinstance := He.free_ok X G (c1.fact 29 (f := .free "isinstance") rfl)
    n_len := He.free_ok X G (c1.fact 30 (f := .free "len") rfl)
    n_list := He.free_ok X G (c1.fact 31 (f := .free "list") rfl)
    n_min := He.free_ok X G (c1.fact 32 (f := .free "min") rfl)
    n_range := He.free_ok X G (c1.fact 33 (f := .free "range") rfl)
    n_reversed := He.free_ok X G (c1.fact 34 (f := .free "reversed") rfl)
    n_set := He.free_ok X G (c1.fact 35 (f := .free "set") rfl)
    n_sorted := He.free_ok X G (c1.fact 36 (f := .free "sorted") rfl)
    n_str := He.free_ok X G (c1.fact 37 (f := .free "str") rfl)
    n_tuple := He.free_ok X G (c1.fact 38 (f := .free "tuple") rfl)
    c_MOST_TASKS := He.int_ok X G (c1.fact 39 (f := .int "MOST_TASKS" (60)) rfl)
    c_MOST_CELLS := He.int_ok X G (c1.fact 40 (f := .int "MOST_CELLS" (1000000)) rfl)
    x_Malformed := ⟨He.glo_ok X G (c1.fact 41 (f := .glo "Malformed") rfl), He.exc_ok (c1.fact 42 (f := .exc "Malformed") rfl)⟩
    f_is_number := ⟨F_is_number, He.glo_ok X G (c1.fact 0 (f := .glo "is_number") rfl), F_is_number.kp, F_is_number.bindsN fun _ _ _ _ _ _ us hl => match us, hl with | [_, _, _], _ => rfl⟩
    f_is_order := ⟨F_is_order, He.glo_ok X G (c1.fact 1 (f := .glo "is_order") rfl), F_is_order.kp, F_is_order.bindsN fun _ _ _ _ _ _ us hl => match us, hl with | [_, _], _ => rfl⟩
    t_is_order := ⟨hT _ (List.mem_map_of_mem (by decide)), code_of F_is_order, List.mem_map_of_mem (List.mem_map_of_mem (by decide))⟩
    f_turned := ⟨F_turned, He.glo_ok X G (c1.fact 2 (f := .glo "turned") rfl), F_turned.kp, F_turned.bindsN fun _ _ _ _ _ _ us hl => match us, hl with | [_], _ => rfl⟩
    f_neighbours := ⟨F_neighbours, He.glo_ok X G (c1.fact 3 (f := .glo "neighbours") rfl), F_neighbours.kp, F_neighbours.bindsN fun _ _ _ _ _ _ us hl => match us, hl with | [_], _ => rfl⟩
    f_check_order := ⟨F_check_order, He.glo_ok X G (c1.fact 4 (f := .glo "check_order") rfl), F_check_order.kp, F_check_order.bindsN fun _ _ _ _ _ _ us hl => match us, hl with | [_, _], _ => rfl⟩
    f_eliminated := ⟨F_eliminated, He.glo_ok X G (c1.fact 5 (f := .glo "eliminated") rfl), F_eliminated.kp, F_eliminated.bindsN fun _ _ _ _ _ _ us hl => match us, hl with | [_, _], _ => rfl⟩
    f_fill_of := ⟨F_fill_of, He.glo_ok X G (c1.fact 6 (f := .glo "fill_of") rfl), F_fill_of.kp, F_fill_of.bindsN fun _ _ _ _ _ _ us hl => match us, hl with | [_, _], _ => rfl⟩
    f_filled := ⟨F_filled, He.glo_ok X G (c1.fact 7 (f := .glo "filled") rfl), F_filled.kp, F_filled.bindsN fun _ _ _ _ _ _ us hl => match us, hl with | [_, _], _ => rfl⟩
    f_later_of := ⟨F_later_of, He.glo_ok X G (c1.fact 8 (f := .glo "later_of") rfl), F_later_of.kp, F_later_of.bindsN fun _ _ _ _ _ _ us hl => match us, hl with | [_, _], _ => rfl⟩
    l_later_of := ⟨hT _ (List.mem_map_of_mem (by decide)), code_of F_later_of, List.mem_map_of_mem (f := fun p : He.Defn × Str => ((He.cT K p.1).2, p.2)) (l := tl) (a := (("later_of", none), ("later_of" : Str) ++ ".<locals>." ++ "<lambda>")) (by decide)⟩
    f_are_tasks := ⟨F_are_tasks, He.glo_ok X G (c1.fact 9 (f := .glo "are_tasks") rfl), F_are_tasks.kp, F_are_tasks.bindsN fun _ _ _ _ _ _ us hl => match us, hl with | [_], _ => rfl⟩
    f_children_in := ⟨F_children_in, He.glo_ok X G (c1.fact 10 (f := .glo "children_in") rfl), F_children_in.kp, F_children_in.bindsN fun _ _ _ _ _ _ us hl => match us, hl with | [_], _ => rfl⟩
    f_tops_in := ⟨F_tops_in, He.glo_ok X G (c1.fact 11 (f := .glo "tops_in") rfl), F_tops_in.kp, F_tops_in.bindsN fun _ _ _ _ _ _ us hl => match us, hl with | [_], _ => rfl⟩
    f_tasks_of := ⟨F_tasks_of, He.glo_ok X G (c1.fact 12 (f := .glo "tasks_of") rfl), F_tasks_of.kp, F_tasks_of.bindsN fun _ _ _ _ _ _ us hl => match us, hl with | [_, _], _ => rfl⟩
    f__law_draws := ⟨F__law_draws, He.glo_ok X G (c1.fact 13 (f := .glo "_law_draws") rfl), F__law_draws.kp, F__law_draws.bindsN fun _ _ _ _ _ _ us hl => match us, hl with | [_], _ => rfl⟩
    f__law_take := ⟨F__law_take, He.glo_ok X G (c1.fact 14 (f := .glo "_law_take") rfl), F__law_take.kp, F__law_take.bindsN fun _ _ _ _ _ _ us hl => match us, hl with | [_, _], _ => rfl⟩
    f__law_alike := ⟨F__law_alike, He.glo_ok X G (c1.fact 15 (f := .glo "_law_alike") rfl), F__law_alike.kp, F__law_alike.bindsN fun _ _ _ _ _ _ us hl => match us, hl with | [_, _], _ => rfl⟩
    f__law_graph := ⟨F__law_graph, He.glo_ok X G (c1.fact 16 (f := .glo "_law_graph") rfl), F__law_graph.kp, F__law_graph.bindsN fun _ _ _ _ _ _ us hl => match us, hl with | [_, _, _], _ => rfl⟩
    f__law_shuffled := ⟨F__law_shuffled, He.glo_ok X G (c1.fact 17 (f := .glo "_law_shuffled") rfl), F__law_shuffled.kp, F__law_shuffled.bindsN fun _ _ _ _ _ _ us hl => match us, hl with | [_, _], _ => rfl⟩
    f__law_tasks := ⟨F__law_tasks, He.glo_ok X G (c1.fact 18 (f := .glo "_law_tasks") rfl), F__law_tasks.kp, F__law_tasks.bindsN fun _ _ _ _ _ _ us hl => match us, hl with | [_, _, _], _ => rfl⟩
    f__law_children := ⟨F__law_children, He.glo_ok X G (c1.fact 19 (f := .glo "_law_children") rfl), F__law_children.kp, F__law_children.bindsN fun _ _ _ _ _ _ us hl => match us, hl with | [_], _ => rfl⟩
    f__law_filled := ⟨F__law_filled, He.glo_ok X G (c1.fact 20 (f := .glo "_law_filled") rfl), F__law_filled.kp, F__law_filled.bindsN fun _ _ _ _ _ _ us hl => match us, hl with | [_, _], _ => rfl⟩
    f__law_tasks_of := ⟨F__law_tasks_of, He.glo_ok X G (c1.fact 21 (f := .glo "_law_tasks_of") rfl), F__law_tasks_of.kp, F__law_tasks_of.bindsN fun _ _ _ _ _ _ us hl => match us, hl with | [_, _], _ => rfl⟩
    f__law_order := ⟨F__law_order, He.glo_ok X G (c1.fact 22 (f := .glo "_law_order") rfl), F__law_order.kp, F__law_order.bindsN fun _ _ _ _ _ _ us hl => match us, hl with | [_, _], _ => rfl⟩
    f_law := ⟨F_law, He.glo_ok X G (c1.fact 23 (f := .glo "law") rfl), F_law.kp, F_law.bindsN fun _ _ _ _ _ _ us hl => match us, hl with | [_], _ => rfl⟩
  }
theorem holds_of (law : ∀ ns : List Int, ns.length ≤ 63 → (∀ z ∈ ns, Builtin.Int.intBits z ≤ 1048576) → ∃ M', m_law [.lst (ns.map .int)] [] = some (.ok (.bl true), M')) : PySem.Challenge.rw_factorsagree_k67_whole_tasks_of_orders.Holds := by
  w_on; o_law
  refine HandSHeadRun.head_any (r := R) (q := PySem.W.view R.prog [34]) (H := hk) (ob := ob) (M := 4000) (loose := nms) (d := HandSHeadRun.topDef R.prog 34) (kwd := []) ob_eq
    (by kernel_rfl) (fun s => by kernel_rfl) run (by kernel_rfl) (by kernel_rfl) (by kernel_rfl) (by rfl) (by first | assumption | decide +kernel) (by decide +kernel) ⟨rfl, rfl, rfl, rfl, rfl, by decide +kernel⟩ ?hw ?hc
  case hw => w_witness2
  case hc =>
    refine LamX.walk_ofTsE (l := PySem.Challenge.rw_factorsagree_k67_whole_tasks_of_orders) (n := 63) (k := 11) (x := "script") (CX := fun w => L2N.CX R.prog w) rfl (by decide) (by kernel_rfl) ⟨rfl, by decide, by decide⟩ ?F (fun _ _ _ _ _ z => cx_end z)
    intro w mg fa' h Y G hmg0
    obtain ⟨K, KX, c⟩ := Y
    have hmg : mg ("law" : Str) = some (.ref fa') := by
      have e : (HandSHeadRun.topDef R.prog 34).name = ("law" : Str) := by kernel_rfl
      rw [← e]
      exact hmg0
    have e := hmg.symm.trans (He.glo_ok KX G (c.t.d.fact 23 (f := .glo "law") rfl))
    cases e
    obtain ⟨F0, _⟩ := c.t.d.def_ 0 (d := d_is_number) rfl
    have FL := fd_at c.t.d F0 23 (d := d_law) (x := "law") rfl rfl
    have b := FL.bindsA (ps := ["script"]) fun _ _ _ _ _ _ us hl => match us, hl with | [_], _ => rfl
    have hlb : lamsB K tg (tl.map (·.1)) = true := by
      have e0 : ex K = true := c.more
      unfold ex at e0
      exact e0
    exact ⟨K, KX, lawAt_ofL (tg := tg) (tl := tl) (fd := fdAt K F0 "law") (F := m_law) KX rfl hlb c.hd c.out c.empty (fun s u => b s [u] rfl) (fun base B N TB => h_law (gl_of KX G c F0 base TB)) law⟩
end K67
theorem PySem.Challenge.cw_factorsagree_k67_whole_tasks_of_orders_holds : PySem.Challenge.rw_factorsagree_k67_whole_tasks_of_orders.Holds := by
  exact K67.holds_of fun ns h _ => K67.law_run ns h
