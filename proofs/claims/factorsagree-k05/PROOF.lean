import PyProof.Rows.All
import Wide.All
import OpenK.AllK
import Wide.FinOn
import HandS.ForMost
import HandS.ForExc
import HandS.CallSlots
import HandS.Wide
import HandS.IsInst
import HandS.TupAny
import HandS.TupLe
import HandS.Small
import HandS.AnyAll
import HandS.TupSets
import HandS.ExcCtx
import HandS.HotCalls
import HandS.Defaults
import KE.SortData
import HandS.Gcd
import HandS.Codes
import HandS.Zip
import HandS.Rev
import HandS.RevTup
import HandS.Conv
import HandS.More
import PyProof.GenArm
import PyProof.GenQ
import HandS.GenOver
import HandS.DictComp
import HandS.Star
import HandS.HeadHook4
import HandS.SetBool
import HandS.Style
import HandS.HeadWalk
import HandS.Head2
import HandS.HeadEnd
import HandS.Head3
import PySem.Challenge.RW_factorsagree_k05_whole_patterns_and_grap
set_option Elab.async false
set_option linter.all false
set_option maxRecDepth 100000
set_option maxHeartbeats 4000000
namespace DL
open PySem PySem.Spec PyProof.Rows L2

/-- the program, the world, the written part -/
structure KP where
  P : Program
  w : World
  K : PySem.W.Frag
  tabs : List Addr
/-- a dict whose keys are tuples: its entries, each key with the address of its tuple -/
abbrev TE3 := List (List Key × Addr × Value)
def TDok (K : KP) (a : Addr) (xs : TE3) (h : Heap) : Prop := xs.length ≤ sizeLine ∧ (a == sysModules) = false ∧ ∃ o es ep, h.get? a = some o ∧ o.ExactDict ∧ o.data = .dict es ep ∧ es.toList = xs.map (entryOfKey (tupleKind (mixKind K.P K.w))) ∧ (xs.map (·.1)).Nodup
def TD (K : KP) (a : Addr) (xs : TE3) : HO := .ext (TDok K a xs)
theorem TDok.at {K : KP} {a : Addr} {xs : TE3} {h h' : Heap} (x : TDok K a xs h) (k : ∀ o, h.get? a = some o → h'.get? a = some o) : TDok K a xs h' :=
  let ⟨h1, h2, o, es, ep, e, r⟩ := x; ⟨h1, h2, o, es, ep, k o e, r⟩
theorem td_new {K : KP} {P : Program} {w : World} {H : Hp} {h : Heap} {a : Addr} {xs : TE3} (x : TDok K a xs h) : ObjOk P w H h a (TD K a xs) :=
  ⟨x, let ⟨_, _, o, _, _, e, _⟩ := x; ⟨o, e⟩, fun _ _ y k => y.at k⟩
/-- the same with values -/
inductive KS (F : PySem.W.Frag) (H : Hp) : TE3 → List (List Key × V) → Prop
  | nil : KS F H [] []
  | cons {k : List Key} {q : Addr} {u : Value} {v : V} {xs : TE3} {kvs : List (List Key × V)} : SqT F H q (k.map kV) → RelV v u → KS F H xs kvs → KS F H ((k, q, u) :: xs) ((k, v) :: kvs)
theorem KS.mono {F : PySem.W.Frag} {H H' : Hp} (e : ∀ a xs, SqT F H a xs → SqT F H' a xs) : ∀ {xs : TE3} {kvs : List (List Key × V)}, KS F H xs kvs → KS F H' xs kvs
  | _, _, .nil => .nil
  | _, _, .cons h r t => .cons (e _ _ h) r (KS.mono e t)
theorem KS.length {F : PySem.W.Frag} {H : Hp} : ∀ {xs : TE3} {kvs : List (List Key × V)}, KS F H xs kvs → xs.length = kvs.length
  | _, _, .nil => rfl
  | _, _, .cons _ _ t => by simp only [List.length_cons, KS.length t]

inductive D where
  | non | bl (b : Bool) | int (i : Int) | str (s : Str)
  | tup (l : List D) | lst (l : List D) | dct (t : Bool) (l : List (D × D)) | ref (n : Nat) | obj (a : Addr) | ty (n : String) | set (l : List (List Int)) | seti (l : List Int)

inductive O where
  | lst (l : List D) | dct (t : Bool) (l : List (D × D)) | ins (C : Addr) (fs : List (Str × D)) | dead
abbrev Mem := List O

structure Wd where
  β : List Addr
  M : Mem
  H : Hp
  pv : List Addr
def Wd.frz (W : Wd) (a : Addr) : Prop := (∀ n : Nat, W.β[n]? = some a → W.M[n]? = some O.dead) ∧ a ∉ W.pv

def kD : Key → D
  | .inl i => .int i
  | .inr x => .str x
def ktD (k : List Key) : D := .tup (k.map kD)

/-- a list that the program's top wrote (the script may be one, for all that is known) -/
def KLst (F : PySem.W.Frag) (a : Addr) (xs : List V) : Prop := ∃ (o : Obj) (its : Array Value) (n : Nat), F.lookup a = some o ∧ o.cls = .type "list" ∧ o.dict = none ∧ o.data = .seq its n ∧ its.size ≤ sizeLine ∧ Vals xs its.toList
/-- a set of tuples of ints that is done: its members in some order -/
def SetAt (K : KP) (W : Wd) (a : Addr) (l : List (List Int)) : Prop := ∃ (o : Obj) (L : List (Addr × List Int)), W.H a = some (.frz o (SetTO K.P K.w a L)) ∧ (∀ p ∈ L, SqT K.K W.H p.1 (p.2.map V.int)) ∧ (L.map (·.2)).Perm l
/-- a set of ints that is done -/
def SetIAt (W : Wd) (a : Addr) (l : List Int) : Prop := ∃ (o : Obj) (S : Int → Bool) (n : Nat), W.H a = some (.frz o (.set S n)) ∧ l.Nodup ∧ n = l.length ∧ ∀ i, S i = decide (i ∈ l)
mutual
inductive Rp (K : KP) (W : Wd) : V → D → Prop
  | non : Rp K W .non .non
  | bl (b : Bool) : Rp K W (.bl b) (.bl b)
  | int (i : Int) : Rp K W (.int i) (.int i)
  | str (x : Str) : Rp K W (.str x) (.str x)
  | tup {a : Addr} {xs : List V} {ds : List D} : SqT K.K W.H a xs → RpA K W xs ds → Rp K W (.ref a) (.tup ds)
  | lst {a : Addr} {xs : List V} {ds : List D} : Rd W.H a (.lst xs) → W.frz a → RpA K W xs ds → Rp K W (.ref a) (.lst ds)
  | lstK {a : Addr} {xs : List V} {ds : List D} : KLst K.K a xs → RpA K W xs ds → Rp K W (.ref a) (.lst ds)
  | dK {a : Addr} {kvs : List (Key × V)} {ds : List (D × D)} : Rd W.H a (.dK kvs) → W.frz a → RpK K W kvs ds → Rp K W (.ref a) (.dct false ds)
  | dT {a : Addr} {xs : TE3} {kvs : List (List Key × V)} {ds : List (D × D)} : Rd W.H a (TD K a xs) → W.frz a → KS K.K W.H xs kvs → RpT K W kvs ds → Rp K W (.ref a) (.dct true ds)
  | ref {n : Nat} {a : Addr} : W.β[n]? = some a → Rp K W (.ref a) (.ref n)
  | obj (a : Addr) : Rp K W (.ref a) (.obj a)
  | ty (n : String) : Rp K W (.ty n) (.ty n)
  | set {a : Addr} {l : List (List Int)} : SetAt K W a l → Rp K W (.ref a) (.set l)
  | seti {a : Addr} {l : List Int} : SetIAt W a l → Rp K W (.ref a) (.seti l)
inductive RpA (K : KP) (W : Wd) : List V → List D → Prop
  | nil : RpA K W [] []
  | cons {v : V} {vs : List V} {d : D} {ds : List D} : Rp K W v d → RpA K W vs ds → RpA K W (v :: vs) (d :: ds)
inductive RpK (K : KP) (W : Wd) : List (Key × V) → List (D × D) → Prop
  | nil : RpK K W [] []
  | cons {k : Key} {v : V} {kvs : List (Key × V)} {d : D} {ds : List (D × D)} : Rp K W v d → RpK K W kvs ds → RpK K W ((k, v) :: kvs) ((kD k, d) :: ds)
inductive RpT (K : KP) (W : Wd) : List (List Key × V) → List (D × D) → Prop
  | nil : RpT K W [] []
  | cons {k : List Key} {v : V} {kvs : List (List Key × V)} {d : D} {ds : List (D × D)} : Rp K W v d → RpT K W kvs ds → RpT K W ((k, v) :: kvs) ((ktD k, d) :: ds)
end

structure Le (K : KP) (W W' : Wd) : Prop where
  β : ∀ (n : Nat) (a : Addr), W.β[n]? = some a → W'.β[n]? = some a
  t : ∀ a xs, SqT K.K W.H a xs → SqT K.K W'.H a xs
  l : ∀ a xs, Rd W.H a (.lst xs) → W.frz a → Rd W'.H a (.lst xs) ∧ W'.frz a
  k : ∀ a xs, Rd W.H a (.dK xs) → W.frz a → Rd W'.H a (.dK xs) ∧ W'.frz a
  kt : ∀ a xs, Rd W.H a (TD K a xs) → W.frz a → Rd W'.H a (TD K a xs) ∧ W'.frz a
  z : ∀ a o u, W.H a = some (.frz o u) → W'.H a = some (.frz o u)
  x : ∀ a, a ∈ W.pv → a ∈ W'.pv ∧ W'.H a = W.H a
theorem Le.refl (K : KP) (W : Wd) : Le K W W := ⟨fun _ _ h => h, fun _ _ h => h, fun _ _ h f => ⟨h, f⟩, fun _ _ h f => ⟨h, f⟩, fun _ _ h f => ⟨h, f⟩, fun _ _ _ h => h, fun _ h => ⟨h, rfl⟩⟩
theorem Le.trans {K : KP} {W W1 W2 : Wd} (a : Le K W W1) (b : Le K W1 W2) : Le K W W2 :=
  ⟨fun n x h => b.β n x (a.β n x h), fun p xs h => b.t p xs (a.t p xs h), fun p xs h f => let ⟨h1, f1⟩ := a.l p xs h f; b.l p xs h1 f1,
   fun p xs h f => let ⟨h1, f1⟩ := a.k p xs h f; b.k p xs h1 f1, fun p xs h f => let ⟨h1, f1⟩ := a.kt p xs h f; b.kt p xs h1 f1,
   fun p o u h => b.z p o u (a.z p o u h), fun p h => let ⟨h1, f1⟩ := a.x p h; let ⟨h2, f2⟩ := b.x p h1; ⟨h2, f2.trans f1⟩⟩

/-- the part of Le that values lean on -/
structure Le0 (K : KP) (W W' : Wd) : Prop where
  β : ∀ (n : Nat) (a : Addr), W.β[n]? = some a → W'.β[n]? = some a
  t : ∀ a xs, SqT K.K W.H a xs → SqT K.K W'.H a xs
  l : ∀ a xs, Rd W.H a (.lst xs) → W.frz a → Rd W'.H a (.lst xs) ∧ W'.frz a
  k : ∀ a xs, Rd W.H a (.dK xs) → W.frz a → Rd W'.H a (.dK xs) ∧ W'.frz a
  kt : ∀ a xs, Rd W.H a (TD K a xs) → W.frz a → Rd W'.H a (TD K a xs) ∧ W'.frz a
  z : ∀ a o u, W.H a = some (.frz o u) → W'.H a = some (.frz o u)
/-- Le, but a private object may have changed -/
structure LeZ (K : KP) (W W' : Wd) : Prop where
  β : ∀ (n : Nat) (a : Addr), W.β[n]? = some a → W'.β[n]? = some a
  t : ∀ a xs, SqT K.K W.H a xs → SqT K.K W'.H a xs
  l : ∀ a xs, Rd W.H a (.lst xs) → W.frz a → Rd W'.H a (.lst xs) ∧ W'.frz a
  k : ∀ a xs, Rd W.H a (.dK xs) → W.frz a → Rd W'.H a (.dK xs) ∧ W'.frz a
  kt : ∀ a xs, Rd W.H a (TD K a xs) → W.frz a → Rd W'.H a (TD K a xs) ∧ W'.frz a
  z : ∀ a o u, W.H a = some (.frz o u) → W'.H a = some (.frz o u)
theorem LeZ.zero {K : KP} {W W' : Wd} (e : LeZ K W W') : Le0 K W W' := ⟨e.β, e.t, e.l, e.k, e.kt, e.z⟩
theorem Le.toZ {K : KP} {W W' : Wd} (e : Le K W W') : LeZ K W W' := ⟨e.β, e.t, e.l, e.k, e.kt, e.z⟩
theorem LeZ.trans {K : KP} {W W1 W2 : Wd} (a : LeZ K W W1) (b : LeZ K W1 W2) : LeZ K W W2 :=
  ⟨fun n x h => b.β n x (a.β n x h), fun p xs h => b.t p xs (a.t p xs h), fun p xs h f => let ⟨h1, f1⟩ := a.l p xs h f; b.l p xs h1 f1,
   fun p xs h f => let ⟨h1, f1⟩ := a.k p xs h f; b.k p xs h1 f1, fun p xs h f => let ⟨h1, f1⟩ := a.kt p xs h f; b.kt p xs h1 f1,
   fun p o u h => b.z p o u (a.z p o u h)⟩
theorem Le.zero {K : KP} {W W' : Wd} (e : Le K W W') : Le0 K W W' := ⟨e.β, e.t, e.l, e.k, e.kt, e.z⟩
section
variable {K : KP} {W W' : Wd}
mutual
theorem Rp.mono0 (e : Le0 K W W') : ∀ {v : V} {d : D}, Rp K W v d → Rp K W' v d
  | _, _, .non => .non
  | _, _, .bl b => .bl b
  | _, _, .int i => .int i
  | _, _, .str x => .str x
  | _, _, .tup h r => .tup (e.t _ _ h) (RpA.mono0 e r)
  | _, _, .lst h f r => .lst (e.l _ _ h f).1 (e.l _ _ h f).2 (RpA.mono0 e r)
  | _, _, .lstK h r => .lstK h (RpA.mono0 e r)
  | _, _, .dK h f r => .dK (e.k _ _ h f).1 (e.k _ _ h f).2 (RpK.mono0 e r)
  | _, _, .dT h f q r => .dT (e.kt _ _ h f).1 (e.kt _ _ h f).2 (q.mono e.t) (RpT.mono0 e r)
  | _, _, .ref h => .ref (e.β _ _ h)
  | _, _, .obj a => .obj a
  | _, _, .ty n => .ty n
  | _, _, .set h => .set (let ⟨o, L, h1, h2, h3⟩ := h; ⟨o, L, e.z _ _ _ h1, fun q hq => e.t _ _ (h2 q hq), h3⟩)
  | _, _, .seti h => .seti (let ⟨o, S, n, h1, h2⟩ := h; ⟨o, S, n, e.z _ _ _ h1, h2⟩)
theorem RpA.mono0 (e : Le0 K W W') : ∀ {v : List V} {d : List D}, RpA K W v d → RpA K W' v d
  | _, _, .nil => .nil
  | _, _, .cons h t => .cons (Rp.mono0 e h) (RpA.mono0 e t)
theorem RpK.mono0 (e : Le0 K W W') : ∀ {v : List (Key × V)} {d : List (D × D)}, RpK K W v d → RpK K W' v d
  | _, _, .nil => .nil
  | _, _, .cons h t => .cons (Rp.mono0 e h) (RpK.mono0 e t)
theorem RpT.mono0 (e : Le0 K W W') : ∀ {v : List (List Key × V)} {d : List (D × D)}, RpT K W v d → RpT K W' v d
  | _, _, .nil => .nil
  | _, _, .cons h t => .cons (Rp.mono0 e h) (RpT.mono0 e t)
end
theorem Rp.mono (e : Le K W W') {v : V} {d : D} (h : Rp K W v d) : Rp K W' v d := h.mono0 e.zero
theorem RpA.mono (e : Le K W W') {v : List V} {d : List D} (h : RpA K W v d) : RpA K W' v d := h.mono0 e.zero
theorem RpK.mono (e : Le K W W') {v : List (Key × V)} {d : List (D × D)} (h : RpK K W v d) : RpK K W' v d := h.mono0 e.zero
theorem RpT.mono (e : Le K W W') {v : List (List Key × V)} {d : List (D × D)} (h : RpT K W v d) : RpT K W' v d := h.mono0 e.zero
theorem RpA.length : ∀ {v : List V} {d : List D}, RpA K W v d → v.length = d.length
  | _, _, .nil => rfl
  | _, _, .cons _ t => by simp only [List.length_cons, RpA.length t]
theorem RpA.get : ∀ {v : List V} {d : List D} {i : Nat} {x : D}, RpA K W v d → d[i]? = some x → ∃ y, v[i]? = some y ∧ Rp K W y x
  | _, _, _, _, .nil, h => by simp at h
  | _, _, 0, _, .cons h _, e => by simp at e; subst e; exact ⟨_, rfl, h⟩
  | _, _, i + 1, _, .cons _ t, e => by simpa using RpA.get t (by simpa using e)
theorem RpA.get' : ∀ {v : List V} {d : List D} {i : Nat} {y : V}, RpA K W v d → v[i]? = some y → ∃ x, d[i]? = some x ∧ Rp K W y x
  | _, _, _, _, .nil, h => by simp at h
  | _, _, 0, _, .cons h _, e => by simp at e; subst e; exact ⟨_, rfl, h⟩
  | _, _, i + 1, _, .cons _ t, e => by simpa using RpA.get' t (by simpa using e)
theorem RpA.append : ∀ {v w : List V} {d e : List D}, RpA K W v d → RpA K W w e → RpA K W (v ++ w) (d ++ e)
  | _, _, _, _, .nil, s => s
  | _, _, _, _, .cons h t, s => .cons h (RpA.append t s)
theorem RpA.one {v : V} {d : D} (h : Rp K W v d) : RpA K W [v] [d] := .cons h .nil
theorem RpA.take : ∀ {v : List V} {d : List D} (n : Nat), RpA K W v d → RpA K W (v.take n) (d.take n)
  | _, _, 0, _ => .nil
  | _, _, _ + 1, .nil => .nil
  | _, _, n + 1, .cons h t => .cons h (RpA.take n t)
theorem RpA.drop : ∀ {v : List V} {d : List D} (n : Nat), RpA K W v d → RpA K W (v.drop n) (d.drop n)
  | _, _, 0, r => r
  | _, _, _ + 1, .nil => .nil
  | _, _, n + 1, .cons _ t => RpA.drop n t
theorem RpA.set : ∀ {v : List V} {d : List D} {x : V} {y : D} (n : Nat), RpA K W v d → Rp K W x y → RpA K W (v.set n x) (d.set n y)
  | _, _, _, _, _, .nil, _ => .nil
  | _, _, _, _, 0, .cons _ t, r => .cons r t
  | _, _, _, _, n + 1, .cons h t, r => .cons h (RpA.set n t r)
theorem RpA.erase : ∀ {v : List V} {d : List D} (n : Nat), RpA K W v d → RpA K W (v.eraseIdx n) (d.eraseIdx n)
  | _, _, _, .nil => .nil
  | _, _, 0, .cons _ t => t
  | _, _, n + 1, .cons h t => .cons h (RpA.erase n t)
theorem RpA.reverse {v : List V} {d : List D} (h : RpA K W v d) : RpA K W v.reverse d.reverse := by
  induction v generalizing d with
  | nil => cases h; exact .nil
  | cons x xs ih =>
    cases h with
    | cons a b =>
      rw [List.reverse_cons, List.reverse_cons]
      exact (ih b).append (.one a)
theorem RpA.dropLast : ∀ {v : List V} {d : List D}, RpA K W v d → RpA K W v.dropLast d.dropLast
  | _, _, .nil => .nil
  | _, _, .cons _ .nil => .nil
  | _, _, .cons h (.cons a t) => .cons h (RpA.dropLast (.cons a t))
end

def OOk (K : KP) (W : Wd) (a : Addr) : O → Prop
  | .lst ds => ∃ xs, W.H a = some (.lst xs) ∧ RpA K W xs ds
  | .dct false ds => ∃ kvs, W.H a = some (.dK kvs) ∧ RpK K W kvs ds
  | .dct true ds => ∃ xs kvs, W.H a = some (TD K a xs) ∧ KS K.K W.H xs kvs ∧ RpT K W kvs ds
  | .ins C fs => ∃ dx gs, W.H a = some (.ins C dx gs) ∧ gs.map (·.1) = fs.map (·.1) ∧ RpA K W (gs.map (·.2)) (fs.map (·.2))
  | .dead => ∃ o, W.H a = some o ∧ ∀ x, o ≠ .own x
structure Ok (K : KP) (W : Wd) : Prop where
  len : W.β.length = W.M.length
  nd : W.β.Nodup
  ob : ∀ (n : Nat) (a : Addr) (o : O), W.β[n]? = some a → W.M[n]? = some o → OOk K W a o
  pn : ∀ a ∈ W.pv, a ∉ W.β
  ph : ∀ a ∈ W.pv, ∃ xs, W.H a = some xs
  tb : ∀ a ∈ K.tabs, GxR.TabG W.H a ∧ a ∉ W.β ∧ a ∉ W.pv
theorem OOk.mono0 {K : KP} {W W' : Wd} {a : Addr} {o : O} (e : Le0 K W W') (hH : W'.H a = W.H a) (h : OOk K W a o) : OOk K W' a o := by
  cases o with
  | lst ds => obtain ⟨xs, h1, h2⟩ := h; exact ⟨xs, by rw [hH]; exact h1, h2.mono0 e⟩
  | dct t ds =>
    cases t
    · obtain ⟨kvs, h1, h2⟩ := h
      exact ⟨kvs, by rw [hH]; exact h1, h2.mono0 e⟩
    · obtain ⟨xs, kvs, h1, h2, h3⟩ := h
      exact ⟨xs, kvs, by rw [hH]; exact h1, h2.mono e.t, h3.mono0 e⟩
  | ins C fs => obtain ⟨dx, gs, h1, h2, h3⟩ := h; exact ⟨dx, gs, by rw [hH]; exact h1, h2, h3.mono0 e⟩
  | dead => obtain ⟨u, h1⟩ := h; exact ⟨u, by rw [hH]; exact h1⟩
theorem OOk.mono {K : KP} {W W' : Wd} {a : Addr} {o : O} (e : Le K W W') (hH : W'.H a = W.H a) (h : OOk K W a o) : OOk K W' a o := h.mono0 e.zero hH
theorem OOk.there {K : KP} {W : Wd} {a : Addr} {o : O} (h : OOk K W a o) : ∃ u, W.H a = some u ∧ ∀ x, u ≠ .own x := by
  cases o with
  | lst ds => obtain ⟨xs, h1, h2⟩ := h; exact ⟨_, h1, by intro x q; cases q⟩
  | dct t ds =>
    cases t
    · obtain ⟨kvs, h1, h2⟩ := h
      exact ⟨_, h1, by intro x q; cases q⟩
    · obtain ⟨xs, kvs, h1, h2⟩ := h
      exact ⟨_, h1, by intro x q; cases q⟩
  | ins C fs => obtain ⟨dx, gs, h1, _⟩ := h; exact ⟨_, h1, by intro x q; cases q⟩
  | dead => exact h
section
variable {K : KP} {W : Wd}
theorem Ok.at (k : Ok K W) {n : Nat} {a : Addr} (h : W.β[n]? = some a) : ∃ o, W.M[n]? = some o ∧ OOk K W a o := by
  have hn : n < W.M.length := by
    rw [← k.len]
    exact (List.getElem?_eq_some_iff.mp h).1
  exact ⟨W.M[n], by simp [hn], k.ob n a _ h (by simp [hn])⟩
theorem Ok.notin (k : Ok K W) {p : Addr} (hp : W.H p = none) : ∀ n : Nat, W.β[n]? ≠ some p := fun n h => by
  obtain ⟨o, _, h2⟩ := k.at h
  obtain ⟨u, h3, _⟩ := h2.there
  rw [hp] at h3; cases h3
theorem tab_ne {H : Hp} {p a : Addr} (h : GxR.TabG H a) (hp : ∀ q, H p ≠ some (.tbl q)) : a ≠ p := by
  rintro rfl
  obtain ⟨ps, e, _⟩ := h
  exact hp ps e
theorem tab_upd {H : Hp} {p a : Addr} {o : HO} (h : GxR.TabG H a) (hne : a ≠ p) : GxR.TabG (upd H p o) a := by
  obtain ⟨ps, e, t⟩ := h
  exact ⟨ps, by rw [upd_ne hne]; exact e, t⟩
theorem tab_live {H : Hp} {p a : Addr} {u : HO} (h : GxR.TabG H a) (e : H p = some u) (hu : ∀ q, u ≠ .tbl q) : a ≠ p := tab_ne h fun q z => by rw [e] at z; exact hu q (Option.some.inj z)
theorem Ok.nopv (k : Ok K W) {p : Addr} (hp : W.H p = none) : p ∉ W.pv := fun h => by
  obtain ⟨u, e⟩ := k.ph p h
  rw [hp] at e; cases e
theorem Ok.frz_new (k : Ok K W) {p : Addr} (hp : W.H p = none) : W.frz p := ⟨fun n h => absurd h (k.notin hp n), k.nopv hp⟩
theorem rd_ne {H : Hp} {a p : Addr} {u : HO} (h : Rd H a u) (hp : H p = none) : a ≠ p := by
  rintro rfl
  rcases h with h | ⟨o, h⟩ <;> rw [hp] at h <;> cases h
theorem rd_upd {H : Hp} {a p : Addr} {u o : HO} (h : Rd H a u) (hp : a ≠ p) : Rd (upd H p o) a u := by
  rcases h with h | ⟨ob, h⟩
  · exact .inl (by rw [upd_ne hp]; exact h)
  · exact .inr ⟨ob, by rw [upd_ne hp]; exact h⟩
theorem sqt_upd {H : Hp} {a p : Addr} {xs : List V} {o : HO} (h : SqT K.K H a xs) (hp : ∀ ys, ¬ Rd H p (.tup ys)) : SqT K.K (upd H p o) a xs := by
  rcases h with h | h
  · exact .inl (rd_upd h fun e => hp xs (e ▸ h))
  · exact .inr h
/-- a new frozen object -/
def Wd.lay (W : Wd) (p : Addr) (o : HO) : Wd := { W with H := upd W.H p o }
theorem upd_z {H : Hp} {p a : Addr} {o : HO} (hp : H p = none) {ob : Obj} {u : HO} (h : H a = some (.frz ob u)) : upd H p o a = some (.frz ob u) := by
  rw [upd_ne fun e => by rw [e, hp] at h; cases h]; exact h
theorem le_lay {p : Addr} {o : HO} (k : Ok K W) (hp : W.H p = none) : Le K W (W.lay p o) := by
  have nt : ∀ ys, ¬ Rd W.H p (.tup ys) := fun ys h => (rd_ne h hp) rfl
  exact ⟨fun _ _ h => h, fun a xs h => sqt_upd h nt, fun a xs h f => ⟨rd_upd h (rd_ne h hp), f⟩, fun a xs h f => ⟨rd_upd h (rd_ne h hp), f⟩, fun a xs h f => ⟨rd_upd h (rd_ne h hp), f⟩,
    fun a ob u h => upd_z hp h, fun a h => ⟨h, upd_ne fun e => k.nopv hp (e ▸ h)⟩⟩
theorem Ok.lay (k : Ok K W) {p : Addr} {o : HO} (hp : W.H p = none) : Ok K (W.lay p o) :=
  ⟨k.len, k.nd, fun n a u h1 h2 => (k.ob n a u h1 h2).mono (le_lay k hp) (upd_ne fun e => k.notin hp n (e ▸ h1)), k.pn, fun a h => by
    obtain ⟨u, e⟩ := k.ph a h
    exact ⟨u, ((le_lay (o := o) k hp).x a h).2.trans e⟩, fun a h => ⟨tab_upd (k.tb a h).1 (tab_ne (k.tb a h).1 fun q z => by rw [hp] at z; cases z), (k.tb a h).2⟩⟩
/-- a new changing object -/
def Wd.grow (W : Wd) (p : Addr) (ho : HO) (o : O) : Wd := { β := W.β ++ [p], M := W.M ++ [o], H := upd W.H p ho, pv := W.pv }
theorem getElem?_snoc {α : Type} (l : List α) (x : α) (n : Nat) : (l ++ [x])[n]? = if n < l.length then l[n]? else if n = l.length then some x else none := by
  by_cases h : n < l.length
  · rw [if_pos h, List.getElem?_append_left h]
  · rw [if_neg h, List.getElem?_append_right (by omega)]
    by_cases e : n = l.length
    · rw [if_pos e, e]; simp
    · rw [if_neg e, List.getElem?_eq_none (by simp; omega)]
theorem frz_grow (k : Ok K W) {p : Addr} {ho : HO} {o : O} {a : Addr} (hne : a ≠ p) (f : W.frz a) : (W.grow p ho o).frz a := by
  refine ⟨fun n h => ?_, f.2⟩
  have h : (W.β ++ [p])[n]? = some a := h
  show (W.M ++ [o])[n]? = some .dead
  rw [getElem?_snoc] at h ⊢
  rw [← k.len]
  by_cases hn : n < W.β.length
  · rw [if_pos hn] at h ⊢; exact f.1 n h
  · rw [if_neg hn] at h
    by_cases e : n = W.β.length
    · rw [if_pos e] at h; cases h; exact absurd rfl hne
    · rw [if_neg e] at h; cases h
theorem le_grow (k : Ok K W) {p : Addr} {ho : HO} {o : O} (hp : W.H p = none) : Le K W (W.grow p ho o) := by
  have nt : ∀ ys, ¬ Rd W.H p (.tup ys) := fun ys h => (rd_ne h hp) rfl
  refine ⟨fun n a h => ?_, fun a xs h => sqt_upd h nt, fun a xs h f => ⟨rd_upd h (rd_ne h hp), frz_grow k (rd_ne h hp) f⟩, fun a xs h f => ⟨rd_upd h (rd_ne h hp), frz_grow k (rd_ne h hp) f⟩, fun a xs h f => ⟨rd_upd h (rd_ne h hp), frz_grow k (rd_ne h hp) f⟩,
    fun a ob u h => upd_z hp h, fun a h => ⟨h, upd_ne fun e => k.nopv hp (e ▸ h)⟩⟩
  show (W.β ++ [p])[n]? = some a
  rw [getElem?_snoc, if_pos (List.getElem?_eq_some_iff.mp h).1]; exact h
theorem Ok.grow (k : Ok K W) {p : Addr} {ho : HO} {o : O} (hp : W.H p = none) (new : OOk K (W.grow p ho o) p o) : Ok K (W.grow p ho o) := by
  refine ⟨by show (W.β ++ [p]).length = (W.M ++ [o]).length; simp [k.len], ?_, fun n a u h1 h2 => ?_, fun a h hb => ?_, fun a h => ?_, fun a h => ?_⟩
  · show (W.β ++ [p]).Nodup
    rw [List.nodup_append]
    refine ⟨k.nd, by simp, fun a ha b hb => ?_⟩
    simp at hb
    subst hb
    obtain ⟨n, hn⟩ := List.getElem?_of_mem ha
    exact fun e => k.notin hp n (e ▸ hn)
  · have h1 : (W.β ++ [p])[n]? = some a := h1
    have h2 : (W.M ++ [o])[n]? = some u := h2
    rw [getElem?_snoc] at h1 h2
    rw [← k.len] at h2
    by_cases hn : n < W.β.length
    · rw [if_pos hn] at h1 h2
      exact (k.ob n a u h1 h2).mono (le_grow k hp) (upd_ne fun e => k.notin hp n (e ▸ h1))
    · rw [if_neg hn] at h1 h2
      by_cases e : n = W.β.length
      · rw [if_pos e] at h1 h2; cases h1; cases h2; exact new
      · rw [if_neg e] at h1; cases h1
  · rcases List.mem_append.mp (show a ∈ W.β ++ [p] from hb) with hb | hb
    · exact k.pn a h hb
    · rw [List.mem_singleton.mp hb] at h
      exact k.nopv hp h
  · obtain ⟨u, e⟩ := k.ph a h
    exact ⟨u, ((le_grow (o := o) (ho := ho) k hp).x a h).2.trans e⟩
  · obtain ⟨t1, t2, t3⟩ := k.tb a h
    have hne : a ≠ p := tab_ne t1 fun q z => by rw [hp] at z; cases z
    exact ⟨tab_upd t1 hne, fun hb => (List.mem_append.mp hb).elim t2 fun hb => hne (List.mem_singleton.mp hb), t3⟩
/-- a changing object changes -/
def Wd.put (W : Wd) (n : Nat) (a : Addr) (ho : HO) (o : O) : Wd := { β := W.β, M := W.M.set n o, H := upd W.H a ho, pv := W.pv }
theorem frz_ne (k : Ok K W) {n : Nat} {a b : Addr} {u : O} (hb : W.β[n]? = some a) (hm : W.M[n]? = some u) (hu : u ≠ .dead) (f : W.frz b) : b ≠ a := by
  rintro rfl
  have := f.1 n hb
  rw [hm] at this
  exact hu (Option.some.inj this)
theorem frz_put {n : Nat} {a b : Addr} {ho : HO} {o : O} (hb : W.β[n]? = some a) (hne : b ≠ a) (f : W.frz b) : (W.put n a ho o).frz b := by
  refine ⟨fun m h => ?_, f.2⟩
  have h : W.β[m]? = some b := h
  have hmn : n ≠ m := by
    rintro rfl
    rw [hb] at h
    exact hne (Option.some.inj h).symm
  show (W.M.set n o)[m]? = some .dead
  rw [List.getElem?_set_ne hmn]
  exact f.1 m h
def HO.live : HO → Bool
  | .lst _ => true
  | .dK _ => true
  | .dT _ => true
  | .ext _ => true
  | .ins _ _ _ => true
  | _ => false
theorem OOk.live {a : Addr} {u : O} (h : OOk K W a u) (hu : u ≠ .dead) : ∃ ho, W.H a = some ho ∧ HO.live ho = true := by
  cases u with
  | lst ds => obtain ⟨xs, h1, h2⟩ := h; exact ⟨_, h1, rfl⟩
  | dct t ds =>
    cases t
    · obtain ⟨kvs, h1, h2⟩ := h
      exact ⟨_, h1, rfl⟩
    · obtain ⟨xs, kvs, h1, h2⟩ := h
      exact ⟨_, h1, rfl⟩
  | ins C fs => obtain ⟨dx, gs, h1, _⟩ := h; exact ⟨_, h1, rfl⟩
  | dead => exact absurd rfl hu
theorem le_put (k : Ok K W) {n : Nat} {a : Addr} {ho : HO} {o u : O} (hb : W.β[n]? = some a) (hm : W.M[n]? = some u) (hu : u ≠ .dead) : Le K W (W.put n a ho o) := by
  obtain ⟨h0, e0, l0⟩ := (k.ob n a u hb hm).live hu
  have nt : ∀ ys, ¬ Rd W.H a (.tup ys) := fun ys h => by
    rcases h with h | ⟨ob, h⟩ <;> rw [e0] at h <;> cases h <;> cases l0
  refine ⟨fun _ _ h => h, fun b xs h => sqt_upd h nt, fun b xs h f => ?_, fun b xs h f => ?_, fun b xs h f => ?_, fun b ob u h => ?_, fun b h => ⟨h, upd_ne fun e => k.pn b h (e ▸ List.mem_of_getElem? hb)⟩⟩
  iterate 3 exact ⟨rd_upd h (frz_ne k hb hm hu f), frz_put hb (frz_ne k hb hm hu f) f⟩
  show upd W.H a ho b = _
  rw [upd_ne fun e => by
    rw [e, e0] at h
    cases h
    cases l0]
  exact h
theorem Ok.put (k : Ok K W) {n : Nat} {a : Addr} {ho : HO} {o u : O} (hb : W.β[n]? = some a) (hm : W.M[n]? = some u) (hu : u ≠ .dead) (new : OOk K (W.put n a ho o) a o) : Ok K (W.put n a ho o) := by
  refine ⟨by show W.β.length = (W.M.set n o).length; simp [k.len], k.nd, fun m b v h1 h2 => ?_, k.pn, fun b h => by
    obtain ⟨u, e⟩ := k.ph b h
    exact ⟨u, ((le_put (o := o) (ho := ho) k hb hm hu).x b h).2.trans e⟩, fun b h => ⟨tab_upd (k.tb b h).1 fun e => (k.tb b h).2.1 (e ▸ List.mem_of_getElem? hb), (k.tb b h).2⟩⟩
  have h1 : W.β[m]? = some b := h1
  have h2 : (W.M.set n o)[m]? = some v := h2
  by_cases e : n = m
  · subst e
    rw [hb] at h1; cases h1
    have hl : n < W.M.length := (List.getElem?_eq_some_iff.mp hm).1
    rw [List.getElem?_set_self hl] at h2; cases h2
    exact new
  · rw [List.getElem?_set_ne e] at h2
    have hne : b ≠ a := fun q => by
      subst q
      exact e ((List.getElem?_inj (List.getElem?_eq_some_iff.mp hb).1 k.nd).mp (hb.trans h1.symm))
    exact (k.ob m b v h1 h2).mono (le_put k hb hm hu) (upd_ne hne)
end
end DL
namespace DL
open PySem PySem.Spec PyProof.Rows L2

abbrev Rs (α : Type) := Option (Except Str α × Mem)
abbrev Mo (α : Type) := Mem → Rs α
namespace Mo
variable {α β γ : Type}
def ret (a : α) : Mo α := fun M => some (.ok a, M)
def bnd (m : Mo α) (f : α → Mo β) : Mo β := fun M => match m M with
  | none => none
  | some (.ok a, M1) => f a M1
  | some (.error x, M1) => some (.error x, M1)
def stuck : Mo α := fun _ => none
def fail (x : Str) : Mo α := fun M => some (.error x, M)
def opt (o : Option α) : Mo α := match o with
  | some a => ret a
  | none => stuck
theorem ret_bnd (a : α) (f : α → Mo β) : bnd (ret a) f = f a := rfl
theorem bnd_ret (m : Mo α) : bnd m ret = m := by
  funext M
  unfold bnd ret
  cases h : m M with
  | none => rfl
  | some p => obtain ⟨r, M1⟩ := p; cases r <;> rfl
theorem bnd_assoc (m : Mo α) (f : α → Mo β) (g : β → Mo γ) : bnd (bnd m f) g = bnd m fun a => bnd (f a) g := by
  funext M
  unfold bnd
  cases h : m M with
  | none => rfl
  | some p => obtain ⟨r, M1⟩ := p; cases r <;> rfl
theorem fail_bnd (x : Str) (f : α → Mo β) : bnd (fail x) f = fail x := rfl
theorem stuck_bnd (f : α → Mo β) : bnd (stuck : Mo α) f = stuck := rfl
end Mo
theorem Mo.opt_some {α : Type} (a : α) : Mo.opt (some a) = Mo.ret a := rfl
theorem Mo.opt_none {α : Type} : Mo.opt (none : Option α) = Mo.stuck := rfl
theorem Mo.app_ret {α : Type} (a : α) (M : Mem) : Mo.ret a M = some (.ok a, M) := rfl

abbrev En := List (Option D)
def getV (ρ : En) (i : Nat) : Mo D := match ρ[i]? with
  | some (some d) => .ret d
  | _ => .stuck

/-- what is fixed while a def's body runs -/
structure SC where
  P : Program
  w : World
  F : PySem.W.Frag
  mg : Str → Option Value
  base : Heap
  N : List Str
  sc : Scope
  k : Nat
  W : WX
  df : Bool
  fnc : Str → Bool
  cs : List (Addr × Addr)
  code : Option Value
abbrev SC.K (S : SC) : KP := ⟨S.P, S.w, S.F, S.cs.map (·.2)⟩
/-- a context of that kind -/
structure InC (S : SC) (X : Cx) : Prop where
  P : X.prog = S.P
  w : X.w = S.w
  K : X.K = S.F
  mg : X.mg = S.mg
  base : X.base = S.base
  N : X.N = S.N
  sc : X.env.scope = S.sc
  calm : X.calm = true
  room : Room S.k X.A
  takes : L2N.Takes X S.W
  own : S.df = true → PassesOwn (model X.prog X.w) X.A X.env X.xe
  stk : S.df = true → X.stack = X.env :: X.outer ∧ X.env.frame = some X.env.locals
  fn : ∀ x, S.fnc x = true → X.fn x = true
  code : ∀ v, S.code = some v → X.env.code = v

def StR (K : KP) (W : Wd) (σ : L2.St) (ρ : En) : Prop := σ.length = ρ.length ∧ ∀ (i : Nat) (d : D), ρ[i]? = some (some d) → ∃ v, σ[i]? = some (some v) ∧ Rp K W v d
theorem StR.mono {K : KP} {W W' : Wd} {σ : L2.St} {ρ : En} (e : Le K W W') (h : StR K W σ ρ) : StR K W' σ ρ :=
  ⟨h.1, fun i d q => let ⟨v, h1, h2⟩ := h.2 i d q; ⟨v, h1, h2.mono e⟩⟩
theorem StR.set {K : KP} {W : Wd} {σ : L2.St} {ρ : En} (h : StR K W σ ρ) {v : V} {d : D} (r : Rp K W v d) (i : Nat) : StR K W (σ.set i (some v)) (ρ.set i (some d)) := by
  refine ⟨by simp [h.1], fun j e q => ?_⟩
  by_cases hij : i = j
  · subst hij
    have hl : i < ρ.length := by
      rcases Nat.lt_or_ge i ρ.length with hl | hl
      · exact hl
      · rw [List.getElem?_eq_none (by simpa using hl)] at q; cases q
    rw [List.getElem?_set_self hl] at q
    cases q
    exact ⟨v, List.getElem?_set_self (by rw [h.1]; exact hl), r⟩
  · rw [List.getElem?_set_ne hij] at q ⊢
    exact h.2 j e q
theorem StR.del {K : KP} {W : Wd} {σ : L2.St} {ρ : En} (h : StR K W σ ρ) (i : Nat) : StR K W (σ.set i none) (ρ.set i none) := by
  refine ⟨by simp [h.1], fun j e q => ?_⟩
  by_cases hij : i = j
  · subst hij
    rcases Nat.lt_or_ge i ρ.length with hl | hl
    · rw [List.getElem?_set_self hl] at q; cases q
    · rw [List.getElem?_eq_none (by simpa using hl)] at q; cases q
  · rw [List.getElem?_set_ne hij] at q ⊢
    exact h.2 j e q

/-- what must hold behind a result -/
def Post {α : Type} (S : SC) (W : Wd) (σ : L2.St) (r : Rs α) (Q : α → Wd → Prop) : Prop := match r with
  | none => False
  | some (.ok a, M') => ∀ W', Le S.K W W' → Ok S.K W' → W'.M = M' → Q a W'
  | some (.error x, M') => ∀ W', Le S.K W W' → Ok S.K W' → W'.M = M' → ∀ C, S.mg x = some (.ref C) → S.W (.ref C) none σ W'.H
section
variable {S : SC} {W W' : Wd} {σ : L2.St} {ρ : En} {α β : Type}
theorem Post.mono {r : Rs α} {Q : α → Wd → Prop} (e : Le S.K W W') (h : Post S W σ r Q) : Post S W' σ r Q := by
  cases r with
  | none => exact h
  | some p =>
    obtain ⟨r, M'⟩ := p
    cases r with
    | ok a => exact fun W2 l k m => h W2 (e.trans l) k m
    | error x => exact fun W2 l k m => h W2 (e.trans l) k m
theorem Post.imp {r : Rs α} {Q Q' : α → Wd → Prop} (h : Post S W σ r Q) (i : ∀ a W', Le S.K W W' → Ok S.K W' → Q a W' → Q' a W') : Post S W σ r Q' := by
  cases r with
  | none => exact h
  | some p =>
    obtain ⟨r, M'⟩ := p
    cases r with
    | ok a => exact fun W2 l k m => i a W2 l k (h W2 l k m)
    | error x => exact h
theorem Post.bnd {m : Mo α} {f : α → Mo β} {Q : β → Wd → Prop} (h : Post S W σ (Mo.bnd m f W.M) Q) : Post S W σ (m W.M) (fun a W1 => Post S W1 σ (f a W1.M) Q) := by
  unfold Mo.bnd at h
  cases e : m W.M with
  | none => rw [e] at h; exact h
  | some p =>
    rw [e] at h
    obtain ⟨r, M1⟩ := p
    cases r with
    | error x => exact h
    | ok a =>
      intro W1 l k hm
      subst hm
      exact Post.mono l h
theorem Post.ret {a : α} {Q : α → Wd → Prop} (k : Ok S.K W) (h : Post S W σ (Mo.ret a W.M) Q) : Q a W := h W (Le.refl _ _) k rfl
theorem Post.stuck {Q : α → Wd → Prop} (h : Post S W σ ((Mo.stuck : Mo α) W.M) Q) : False := h
/-- a value is wanted -/
def PV (S : SC) (Q : VK) : D → Wd → Prop := fun d W' => ∀ v, Rp S.K W' v d → Q v W'.H
def SemE (S : SC) (t : TE) (f : En → Mo D) : Prop := ∀ (W : Wd) (σ : L2.St) (ρ : En) (Q : VK), Ok S.K W → StR S.K W σ ρ → Post S W σ (f ρ W.M) (PV S Q) → t σ W.H Q
def SemT (S : SC) (t : TT) (f : En → Mo Bool) : Prop := ∀ (W : Wd) (σ : L2.St) (ρ : En) (Q : Bool → Hp → Prop), Ok S.K W → StR S.K W σ ρ → Post S W σ (f ρ W.M) (fun b W' => Q b W'.H) → t σ W.H Q
def PVA (S : SC) (Q : List V → Hp → Prop) : List D → Wd → Prop := fun ds W' => ∀ vs, RpA S.K W' vs ds → Q vs W'.H
def SemA (S : SC) (t : TA) (f : En → Mo (List D)) : Prop := ∀ (W : Wd) (σ : L2.St) (ρ : En) (Q : List V → Hp → Prop), Ok S.K W → StR S.K W σ ρ → Post S W σ (f ρ W.M) (PVA S Q) → t σ W.H Q
structure EX (S : SC) (e : Expr) (f : En → Mo D) : Prop where
  ex : ∃ t : TE, (∀ X, InC S X → PE X e t) ∧ SemE S t f
structure TX (S : SC) (e : Expr) (f : En → Mo Bool) : Prop where
  ex : ∃ t : TT, (∀ X, InC S X → PT X e t) ∧ SemT S t f
structure AX (S : SC) (es : List Expr) (f : En → Mo (List D)) : Prop where
  ex : ∃ t : TA, (∀ X, InC S X → PA X es t) ∧ SemA S t f
theorem EX.to {e : Expr} {f g : En → Mo D} (h : EX S e f) (q : f = g) : EX S e g := q ▸ h
theorem TX.to {e : Expr} {f g : En → Mo Bool} (h : TX S e f) (q : f = g) : TX S e g := q ▸ h

theorem getV_some {ρ : En} {i : Nat} {d : D} (h : ρ[i]? = some (some d)) : getV ρ i = .ret d := by unfold getV; rw [h]
theorem getV_none {ρ : En} {i : Nat} (h : ∀ d, ρ[i]? ≠ some (some d)) : getV ρ i = .stuck := by
  unfold getV
  split
  · rename_i d e; exact absurd e (h d)
  · rfl
theorem sem_var (i : Nat) : SemE S (tVar i) (fun ρ => getV ρ i) := by
  intro W σ ρ Q k st h
  have h : Post S W σ (getV ρ i W.M) (PV S Q) := h
  by_cases e : ∃ d, ρ[i]? = some (some d)
  · obtain ⟨d, e⟩ := e
    rw [getV_some e] at h
    obtain ⟨v, h1, h2⟩ := st.2 i d e
    exact ⟨v, h1, Post.ret k h v h2⟩
  · rw [getV_none fun d q => e ⟨d, q⟩] at h
    exact h.elim
theorem ex_var (i : Nat) {x : Str} {pos : Pos} (hN : S.N[i]? = some x := by rfl) (hv : Vis S.sc x := by first | exact Or.inl rfl | exact Or.inr (Or.inl rfl) | exact Or.inr (Or.inr rfl)) (hd : (x == ("__debug__" : Str)) = false := by decide)
    (hcd : (x == ("__classdict__" : Str)) = false := by decide) : EX S (.Name x pos) (fun ρ => getV ρ i) :=
  ⟨tVar i, fun X c => pe_var (by rw [c.N]; exact hN) (by rw [c.sc]; exact hv) hd hcd, sem_var i⟩
theorem sem_c {v : V} {d : D} (hd : ∀ W, Rp S.K W v d) : SemE S (tC v) (fun _ => .ret d) := fun W σ ρ Q k st h => Post.ret k h v (hd W)
theorem ex_int {i : Int} {j : Nat} {pos : Pos} : EX S (.Constant (.int i) j pos) (fun _ => .ret (.int i)) := ⟨_, fun X c => pe_int, sem_c fun _ => .int i⟩
theorem ex_bl {b : Bool} {j : Nat} {pos : Pos} : EX S (.Constant (.bool b) j pos) (fun _ => .ret (.bl b)) := ⟨_, fun X c => pe_bl, sem_c fun _ => .bl b⟩
theorem ex_non {j : Nat} {pos : Pos} : EX S (.Constant .none j pos) (fun _ => .ret .non) := ⟨_, fun X c => pe_non, sem_c fun _ => .non⟩
theorem ex_str {x : Str} {j : Nat} {pos : Pos} : EX S (.Constant (.str x) j pos) (fun _ => .ret (.str x)) := ⟨_, fun X c => pe_str, sem_c fun _ => .str x⟩
/-- a global name of the scope -/
def Gs (S : SC) (x : Str) : Prop := S.sc.names.lookup x = some .globalImplicit
theorem gl_of {X : Cx} {x : Str} (c : InC S X) (h : Gs S x) : Gl X x := by
  show X.env.scope.names.lookup x = _
  rw [c.sc]; exact h
theorem ex_glob {x : Str} {v : V} {u : Value} {d : D} {pos : Pos} (hg : Gs S x) (hm : S.mg x = some u) (r : RelV v u) (hd : ∀ W, Rp S.K W v d) (hdb : (x == ("__debug__" : Str)) = false := by decide) : EX S (.Name x pos) (fun _ => .ret d) :=
  ⟨_, fun X c => pe_glob (gl_of c hg) (by rw [c.mg]; exact hm) r hdb, sem_c hd⟩

structure OX (S : SC) (f : Value → Value → Sem Value) (g : D → D → Mo D) : Prop where
  ex : ∃ r : R2, (∀ X, InC S X → OpR X f r) ∧ ∀ (W : Wd) (σ : L2.St) (x y : V) (a b : D) (Q : VK), Ok S.K W → Rp S.K W x a → Rp S.K W y b → Post S W σ (g a b W.M) (PV S Q) → r x y W.H Q
structure UX (S : SC) (f : Value → Sem Value) (g : D → Mo D) : Prop where
  ex : ∃ r : V → Hp → VK → Prop, (∀ X, InC S X → UnR X f r) ∧ ∀ (W : Wd) (σ : L2.St) (x : V) (a : D) (Q : VK), Ok S.K W → Rp S.K W x a → Post S W σ (g a W.M) (PV S Q) → r x W.H Q
structure CXx (S : SC) (f : Value) (g : List D → Mo D) : Prop where
  ex : ∃ r : List V → Hp → VK → Prop, (∀ X, InC S X → CallR X f r) ∧ ∀ (W : Wd) (σ : L2.St) (xs : List V) (as : List D) (Q : VK), Ok S.K W → RpA S.K W xs as → Post S W σ (g as W.M) (PV S Q) → r xs W.H Q
theorem sem_op {r : R2} {g : D → D → Mo D} {ta tb : TE} {fa fb : En → Mo D} (ha : SemE S ta fa) (hb : SemE S tb fb)
    (hr : ∀ (W : Wd) (σ : L2.St) (x y : V) (a b : D) (Q : VK), Ok S.K W → Rp S.K W x a → Rp S.K W y b → Post S W σ (g a b W.M) (PV S Q) → r x y W.H Q) :
    SemE S (tOp r ta tb) (fun ρ => .bnd (fa ρ) fun a => .bnd (fb ρ) fun b => g a b) := by
  intro W σ ρ Q k st h
  refine ha W σ ρ _ k st (Post.imp (Post.bnd h) fun a W1 l1 k1 h1 v rv => ?_)
  refine hb W1 σ ρ _ k1 (st.mono l1) (Post.imp (Post.bnd h1) fun b W2 l2 k2 h2 u ru => ?_)
  exact hr W2 σ v u a b Q k2 (rv.mono l2) ru h2
theorem ex_op {op : Operator} {g : D → D → Mo D} {a b : Expr} {fa fb : En → Mo D} {pos : Pos} (ho : OX S (binaryOp op) g) (ha : EX S a fa) (hb : EX S b fb) :
    EX S (.BinOp a op b pos) (fun ρ => .bnd (fa ρ) fun a => .bnd (fb ρ) fun b => g a b) := by
  obtain ⟨r, h1, h2⟩ := ho.ex
  obtain ⟨ta, a1, a2⟩ := ha.ex
  obtain ⟨tb, b1, b2⟩ := hb.ex
  exact ⟨tOp r ta tb, fun X c => pe_op (h1 X c) (a1 X c) (b1 X c), sem_op a2 b2 h2⟩
theorem ex_un {op : UnaryOp} {g : D → Mo D} {a : Expr} {fa : En → Mo D} {pos : Pos} (ho : UX S (unaryOp op) g) (ha : EX S a fa) : EX S (.UnaryOp op a pos) (fun ρ => .bnd (fa ρ) fun a => g a) := by
  obtain ⟨r, h1, h2⟩ := ho.ex
  obtain ⟨ta, a1, a2⟩ := ha.ex
  refine ⟨tUn r ta, fun X c => pe_un (h1 X c) (a1 X c), fun W σ ρ Q k st h => ?_⟩
  exact a2 W σ ρ _ k st (Post.imp (Post.bnd h) fun a W1 l1 k1 q v rv => h2 W1 σ v a Q k1 rv q)
/-- a mark of a comparison's right side (In, NotIn of written sets) -/
theorem ex_cmp {op : CmpOp} {g : D → D → Mo D} {a b : Expr} {fa fb : En → Mo D} {pos : Pos} (ho : OX S (compareOp op) g) (ha : EX S a fa) (hb : EX S b fb) (hm : behindInMarks op b = false := by first | exact nobehind _ (by decide) (by decide) | rfl) :
    EX S (.Compare a [op] [b] pos) (fun ρ => .bnd (fa ρ) fun a => .bnd (fb ρ) fun b => g a b) := by
  obtain ⟨r, h1, h2⟩ := ho.ex
  obtain ⟨ta, a1, a2⟩ := ha.ex
  obtain ⟨tb, b1, b2⟩ := hb.ex
  exact ⟨tOp r ta tb, fun X c => pe_cmpR (h1 X c) (a1 X c) (b1 X c) hm, sem_op a2 b2 h2⟩
/-- the bool that a value is -/
def boolD : D → Mo Bool
  | .bl b => .ret b
  | _ => .stuck
theorem rp_bl {K : KP} {v : V} {b : Bool} (h : Rp K W v (.bl b)) : v = .bl b := by cases h; rfl
theorem rp_int {K : KP} {v : V} {b : Int} (h : Rp K W v (.int b)) : v = .int b := by cases h; rfl
theorem rp_str {K : KP} {v : V} {b : Str} (h : Rp K W v (.str b)) : v = .str b := by cases h; rfl
theorem rp_non {K : KP} {v : V} (h : Rp K W v .non) : v = .non := by cases h; rfl
theorem sem_test {ta : TE} {fa : En → Mo D} (ha : SemE S ta fa) : SemT S (tTest ta) (fun ρ => .bnd (fa ρ) boolD) := by
  intro W σ ρ Q k st h
  refine ha W σ ρ _ k st (Post.imp (Post.bnd h) fun a W1 l1 k1 h1 v rv => ?_)
  cases a with
  | bl b => rw [rp_bl rv]; exact ⟨b, rfl, Post.ret k1 h1⟩
  | _ => exact h1.elim
theorem tx_cmp {op : CmpOp} {g : D → D → Mo D} {a b : Expr} {fa fb : En → Mo D} {pos : Pos} (ho : OX S (compareOp op) g) (ha : EX S a fa) (hb : EX S b fb) (hm : behindInMarks op b = false := by first | exact nobehind _ (by decide) (by decide) | rfl) :
    TX S (.Compare a [op] [b] pos) (fun ρ => .bnd (.bnd (fa ρ) fun a => .bnd (fb ρ) fun b => g a b) boolD) := by
  obtain ⟨r, h1, h2⟩ := ho.ex
  obtain ⟨ta, a1, a2⟩ := ha.ex
  obtain ⟨tb, b1, b2⟩ := hb.ex
  exact ⟨tTest (tOp r ta tb), fun X c => pt_cmpR (h1 X c) (a1 X c) (b1 X c) hm, sem_test (sem_op a2 b2 h2)⟩
theorem sem_chain {r r' : R2} {g g' : D → D → Mo D} {ta tb tc : TE} {fa fb fc : En → Mo D} (ha : SemE S ta fa) (hb : SemE S tb fb) (hc : SemE S tc fc)
    (hr : ∀ (W : Wd) (σ : L2.St) (x y : V) (a b : D) (Q : VK), Ok S.K W → Rp S.K W x a → Rp S.K W y b → Post S W σ (g a b W.M) (PV S Q) → r x y W.H Q)
    (hr' : ∀ (W : Wd) (σ : L2.St) (x y : V) (a b : D) (Q : VK), Ok S.K W → Rp S.K W x a → Rp S.K W y b → Post S W σ (g' a b W.M) (PV S Q) → r' x y W.H Q) :
    SemE S (tChain r r' ta tb tc) (fun ρ => .bnd (fa ρ) fun a => .bnd (fb ρ) fun b => .bnd (.bnd (g a b) boolD) fun z => cond z (.bnd (fc ρ) fun c => g' b c) (.ret (.bl false))) := by
  intro W σ ρ Q k st h
  refine ha W σ ρ _ k st (Post.imp (Post.bnd h) fun a W1 l1 k1 h1 v rv => ?_)
  refine hb W1 σ ρ _ k1 (st.mono l1) (Post.imp (Post.bnd h1) fun b W2 l2 k2 h2 u ru => ?_)
  refine hr W2 σ v u a b _ k2 (rv.mono l2) ru (Post.imp (Post.bnd (Post.bnd h2)) fun z W3 l3 k3 h3 x rx => ?_)
  cases z with
  | bl z =>
    rw [rp_bl rx]
    refine ⟨z, rfl, ?_⟩
    have h3 : Post S W3 σ ((cond z (Mo.bnd (fc ρ) fun c => g' b c) (Mo.ret (D.bl false))) W3.M) (PV S Q) := Post.ret k3 h3
    cases z with
    | false => exact Post.ret k3 h3 _ (Rp.bl false)
    | true =>
      rw [if_pos rfl]
      refine hc W3 σ ρ _ k3 (((st.mono l1).mono l2).mono l3) (Post.imp (Post.bnd h3) fun c W4 l4 k4 h4 y ry => ?_)
      exact hr' W4 σ u y b c Q k4 ((ru.mono l3).mono l4) ry h4
  | _ => exact (show False from h3).elim
theorem ex_chain {op op' : CmpOp} {g g' : D → D → Mo D} {a b c : Expr} {fa fb fc : En → Mo D} {pos : Pos} (ho : OX S (compareOp op) g) (ho' : OX S (compareOp op') g') (ha : EX S a fa) (hb : EX S b fb) (hc : EX S c fc) (hm : lastMarks [op, op'] [b, c] = false := by rfl) :
    EX S (.Compare a [op, op'] [b, c] pos) (fun ρ => .bnd (fa ρ) fun a => .bnd (fb ρ) fun b => .bnd (.bnd (g a b) boolD) fun z => cond z (.bnd (fc ρ) fun c => g' b c) (.ret (.bl false))) := by
  obtain ⟨r, h1, h2⟩ := ho.ex
  obtain ⟨r', h1', h2'⟩ := ho'.ex
  obtain ⟨ta, a1, a2⟩ := ha.ex
  obtain ⟨tb, b1, b2⟩ := hb.ex
  obtain ⟨tc, c1, c2⟩ := hc.ex
  exact ⟨tChain r r' ta tb tc, fun X c => pe_chain (h1 X c) (h1' X c) (a1 X c) (b1 X c) (c1 X c) hm, sem_chain a2 b2 c2 h2 h2'⟩

def truthD (M : Mem) : D → Option Bool
  | .non => some false
  | .bl b => some b
  | .int i => some (i != 0)
  | .str y => if y.length ≤ sizeLine then some ((y.length : Int) != 0) else none
  | .tup l => some (!l.isEmpty)
  | .lst l => some (!l.isEmpty)
  | .ref n => match M[n]? with
    | some (.lst l) => some (!l.isEmpty)
    | _ => none
  | _ => none
theorem rpa_empty {K : KP} {xs : List V} {ds : List D} (h : RpA K W xs ds) : xs.isEmpty = ds.isEmpty := by cases h <;> rfl
theorem truth_ok {K : KP} {v : V} {d : D} {b : Bool} (k : Ok K W) (r : Rp K W v d) (h : truthD W.M d = some b) : TruV K.K v W.H b := by
  cases r with
  | non => cases h; rfl
  | bl c => cases h; rfl
  | int i => cases h; rfl
  | str y =>
    have h : (if y.length ≤ sizeLine then some ((y.length : Int) != 0) else none) = some b := h
    split at h
    · cases h; exact ⟨by assumption, rfl⟩
    · cases h
  | tup h1 h2 => cases h; exact .inr (.inl ⟨_, h1, by rw [rpa_empty h2]⟩)
  | lst h1 f h2 => cases h; exact .inl ⟨_, .inl h1, by rw [rpa_empty h2]⟩
  | lstK h1 h2 => cases h; exact .inl ⟨_, .inr h1, by rw [rpa_empty h2]⟩
  | dK _ _ _ => cases h
  | dT _ _ _ _ => cases h
  | obj a => cases h
  | ty n => cases h
  | set _ => cases h
  | seti _ => cases h
  | @ref n a hb =>
    obtain ⟨o, hm, ho⟩ := k.at hb
    simp only [truthD, hm] at h
    cases o with
    | lst l =>
      cases h
      obtain ⟨xs, h1, h2⟩ := ho
      exact .inl ⟨xs, .inl (.inl h1), by rw [rpa_empty h2]⟩
    | _ => cases h
def truD (d : D) : Mo Bool := fun M => Mo.opt (truthD M d) M
theorem tx_truth {a : Expr} {fa : En → Mo D} (ha : EX S a fa) (he : ∀ (env : PySem.Env) whole, isTrue a env whole = (do let v ← whole; standAt a.pos; holding [v] (truthy v)) := by intros; rfl) : TX S a (fun ρ => .bnd (fa ρ) truD) := by
  obtain ⟨ta, a1, a2⟩ := ha.ex
  refine ⟨fun σ H Q => ta σ H fun x H' => ∃ k, TruV S.F x H' k ∧ Q k H', fun X c => by have z := pt_truth (a1 X c) (he X.env); rw [c.K] at z; exact z, fun W σ ρ Q k st h => ?_⟩
  refine a2 W σ ρ _ k st (Post.imp (Post.bnd h) fun a W1 l1 k1 h1 v rv => ?_)
  unfold truD at h1
  cases e : truthD W1.M a with
  | none => rw [e] at h1; exact h1.elim
  | some b => rw [e] at h1; exact ⟨b, truth_ok k1 rv e, Post.ret k1 h1⟩
theorem tx_bool {a : Expr} {fa : En → Mo D} (ha : EX S a fa) (he : ∀ (env : PySem.Env) whole, isTrue a env whole = (do let v ← whole; standAt a.pos; holding [v] (truthy v)) := by intros; rfl) : TX S a (fun ρ => .bnd (fa ρ) boolD) := by
  obtain ⟨ta, a1, a2⟩ := ha.ex
  refine ⟨tB ta, fun X c => pt_val (a1 X c) (he X.env), fun W σ ρ Q k st h => sem_test a2 W σ ρ Q k st h⟩
theorem tx_not {a : Expr} {fa : En → Mo Bool} {pos : Pos} (ha : TX S a fa) : TX S (.UnaryOp .Not a pos) (fun ρ => .bnd (fa ρ) fun b => .ret (!b)) := by
  obtain ⟨ta, a1, a2⟩ := ha.ex
  exact ⟨tNot ta, fun X c => pt_not (a1 X c), fun W σ ρ Q k st h => a2 W σ ρ _ k st (Post.imp (Post.bnd h) fun b W1 l1 k1 h1 => Post.ret k1 h1)⟩
structure WXx (S : SC) (e : Expr) (f : En → Mo Bool) : Prop where
  ex : ∃ t : TT, (∀ X, InC S X → PW X e t) ∧ SemT S t f
theorem tx_w {a : Expr} {fa : En → Mo Bool} (h : WXx S a fa) : TX S a fa := let ⟨t, h1, h2⟩ := h.ex; ⟨t, fun X c => (h1 X c).pt, h2⟩
theorem wx_and1 {a : Expr} {fa : En → Mo Bool} {pos : Pos} (h : TX S a fa) : WXx S (.BoolOp .And [a] pos) fa := let ⟨t, h1, h2⟩ := h.ex; ⟨t, fun X c => pw_and1 (h1 X c), h2⟩
theorem wx_or1 {a : Expr} {fa : En → Mo Bool} {pos : Pos} (h : TX S a fa) : WXx S (.BoolOp .Or [a] pos) fa := let ⟨t, h1, h2⟩ := h.ex; ⟨t, fun X c => pw_or1 (h1 X c), h2⟩
theorem wx_and {a b : Expr} {rest : List Expr} {fa fb : En → Mo Bool} {pos : Pos} (ha : TX S a fa) (hb : WXx S (.BoolOp .And (b :: rest) pos) fb) : WXx S (.BoolOp .And (a :: b :: rest) pos) (fun ρ => .bnd (fa ρ) fun z => cond z (fb ρ) (.ret false)) := by
  obtain ⟨ta, a1, a2⟩ := ha.ex
  obtain ⟨tb, b1, b2⟩ := hb.ex
  refine ⟨tAnd ta tb, fun X c => pw_and (a1 X c) (b1 X c), fun W σ ρ Q k st h => a2 W σ ρ _ k st (Post.imp (Post.bnd h) fun b W1 l1 k1 h1 => ?_)⟩
  cases b with
  | true => rw [if_pos rfl]; exact b2 W1 σ ρ Q k1 (st.mono l1) h1
  | false => exact Post.ret k1 h1
theorem wx_or {a b : Expr} {rest : List Expr} {fa fb : En → Mo Bool} {pos : Pos} (ha : TX S a fa) (hb : WXx S (.BoolOp .Or (b :: rest) pos) fb) : WXx S (.BoolOp .Or (a :: b :: rest) pos) (fun ρ => .bnd (fa ρ) fun z => cond z (.ret true) (fb ρ)) := by
  obtain ⟨ta, a1, a2⟩ := ha.ex
  obtain ⟨tb, b1, b2⟩ := hb.ex
  refine ⟨tOr ta tb, fun X c => pw_or (a1 X c) (b1 X c), fun W σ ρ Q k st h => a2 W σ ρ _ k st (Post.imp (Post.bnd h) fun b W1 l1 k1 h1 => ?_)⟩
  cases b with
  | false => exact b2 W1 σ ρ Q k1 (st.mono l1) h1
  | true => rw [if_pos rfl]; exact Post.ret k1 h1
/-- and, or, not as values (of bools) -/
theorem ex_one {op : BoolOp} {a : Expr} {fa : En → Mo D} {pos : Pos} (h : EX S a fa) : EX S (.BoolOp op [a] pos) fa := let ⟨t, h1, h2⟩ := h.ex; ⟨t, fun X c => pe_one (h1 X c), h2⟩
theorem ex_and {a b : Expr} {rest : List Expr} {fa fb : En → Mo D} {pos : Pos} (ha : EX S a fa) (hb : EX S (.BoolOp .And (b :: rest) pos) fb) : EX S (.BoolOp .And (a :: b :: rest) pos) (fun ρ => .bnd (.bnd (fa ρ) boolD) fun z => cond z (fb ρ) (.ret (.bl false))) := by
  obtain ⟨ta, a1, a2⟩ := ha.ex
  obtain ⟨tb, b1, b2⟩ := hb.ex
  refine ⟨tAndV ta tb, fun X c => pe_and (a1 X c) (b1 X c), fun W σ ρ Q k st h => ?_⟩
  refine a2 W σ ρ _ k st (Post.imp (Post.bnd (Post.bnd h)) fun z W1 l1 k1 h1 v rv => ?_)
  cases z with
  | bl z =>
    rw [rp_bl rv]
    have h1 := Post.ret k1 h1
    refine ⟨z, rfl, ?_⟩
    cases z with
    | true => rw [if_pos rfl]; exact b2 W1 σ ρ Q k1 (st.mono l1) h1
    | false => exact Post.ret k1 h1 _ (.bl false)
  | _ => exact (show False from h1).elim
theorem ex_or {a b : Expr} {rest : List Expr} {fa fb : En → Mo D} {pos : Pos} (ha : EX S a fa) (hb : EX S (.BoolOp .Or (b :: rest) pos) fb) : EX S (.BoolOp .Or (a :: b :: rest) pos) (fun ρ => .bnd (.bnd (fa ρ) boolD) fun z => cond z (.ret (.bl true)) (fb ρ)) := by
  obtain ⟨ta, a1, a2⟩ := ha.ex
  obtain ⟨tb, b1, b2⟩ := hb.ex
  refine ⟨tOrV ta tb, fun X c => pe_or (a1 X c) (b1 X c), fun W σ ρ Q k st h => ?_⟩
  refine a2 W σ ρ _ k st (Post.imp (Post.bnd (Post.bnd h)) fun z W1 l1 k1 h1 v rv => ?_)
  cases z with
  | bl z =>
    rw [rp_bl rv]
    have h1 := Post.ret k1 h1
    refine ⟨z, rfl, ?_⟩
    cases z with
    | false => exact b2 W1 σ ρ Q k1 (st.mono l1) h1
    | true => rw [if_pos rfl]; exact Post.ret k1 h1 _ (.bl true)
  | _ => exact (show False from h1).elim
theorem ex_not {a : Expr} {fa : En → Mo D} {pos : Pos} (ha : EX S a fa) : EX S (.UnaryOp .Not a pos) (fun ρ => .bnd (.bnd (fa ρ) boolD) fun z => .ret (.bl (!z))) := by
  obtain ⟨ta, a1, a2⟩ := ha.ex
  refine ⟨tNotV ta, fun X c => pe_not (a1 X c), fun W σ ρ Q k st h => ?_⟩
  refine a2 W σ ρ _ k st (Post.imp (Post.bnd (Post.bnd h)) fun z W1 l1 k1 h1 v rv => ?_)
  cases z with
  | bl z => rw [rp_bl rv]; exact ⟨z, rfl, Post.ret k1 (Post.ret k1 h1) _ (.bl _)⟩
  | _ => exact (show False from h1).elim
theorem ex_if {c a b : Expr} {fc : En → Mo Bool} {fa fb : En → Mo D} {pos : Pos} (hc : TX S c fc) (ha : EX S a fa) (hb : EX S b fb) : EX S (.IfExp c a b pos) (fun ρ => .bnd (fc ρ) fun z => cond z (fa ρ) (fb ρ)) := by
  obtain ⟨tc, c1, c2⟩ := hc.ex
  obtain ⟨ta, a1, a2⟩ := ha.ex
  obtain ⟨tb, b1, b2⟩ := hb.ex
  refine ⟨tIf tc ta tb, fun X c => pe_ifExp (c1 X c) (a1 X c) (b1 X c), fun W σ ρ Q k st h => c2 W σ ρ _ k st (Post.imp (Post.bnd h) fun z W1 l1 k1 h1 => ?_)⟩
  cases z with
  | true => rw [if_pos rfl]; exact a2 W1 σ ρ Q k1 (st.mono l1) h1
  | false => exact b2 W1 σ ρ Q k1 (st.mono l1) h1

theorem ax_nil : AX S [] (fun _ => .ret []) := ⟨tNil, fun X c => pa_nil, fun W σ ρ Q k st h => Post.ret k h [] .nil⟩
theorem ax_cons {e : Expr} {es : List Expr} {f : En → Mo D} {g : En → Mo (List D)} (h : EX S e f) (hr : AX S es g) (hs : ∀ env : PySem.Env, starEach (e :: es) env = (false, eval e env) :: starEach es env := by intro; rfl) :
    AX S (e :: es) (fun ρ => .bnd (f ρ) fun d => .bnd (g ρ) fun ds => .ret (d :: ds)) := by
  obtain ⟨ta, a1, a2⟩ := h.ex
  obtain ⟨tb, b1, b2⟩ := hr.ex
  refine ⟨tCons ta tb, fun X c => pa_cons (a1 X c) (b1 X c) (hs X.env), fun W σ ρ Q k st h => ?_⟩
  refine a2 W σ ρ _ k st (Post.imp (Post.bnd h) fun d W1 l1 k1 h1 v rv => ?_)
  refine b2 W1 σ ρ _ k1 (st.mono l1) (Post.imp (Post.bnd h1) fun ds W2 l2 k2 h2 vs rvs => ?_)
  exact Post.ret k2 h2 _ (.cons (rv.mono l2) rvs)
def lenOk (n : Nat) : Bool := decide (n ≤ sizeLine)
def tupD (ds : List D) : Mo D := cond (lenOk ds.length) (.ret (.tup ds)) .stuck
def lstD (ds : List D) : Mo D := cond (lenOk ds.length) (.ret (.lst ds)) .stuck
/-- a list that will change -/
def newL (ds : List D) : Mo D := fun M => cond (lenOk ds.length) (some (.ok (.ref M.length), M ++ [.lst ds])) none
theorem post_cond {α : Type} {b : Bool} {m : Mo α} {Q : α → Wd → Prop} (h : Post S W σ ((cond b m .stuck) W.M) Q) : b = true ∧ Post S W σ (m W.M) Q := by
  cases b with
  | true => exact ⟨rfl, h⟩
  | false => exact (show False from h).elim
theorem tupD_run {ds : List D} {vs : List V} {Q : VK} (k : Ok S.K W) (r : RpA S.K W vs ds) (h : Post S W σ (tupD ds W.M) (PV S Q)) : vs.length ≤ sizeLine ∧ ∀ p, W.H p = none → Q (.ref p) (upd W.H p (.tup vs)) := by
  obtain ⟨h1, h2⟩ := post_cond h
  refine ⟨by rw [r.length]; exact of_decide_eq_true h1, fun p hp => ?_⟩
  exact h2 (W.lay p (.tup vs)) (le_lay k hp) (k.lay hp) rfl _ (.tup (.inl (.inl upd_same)) (r.mono (le_lay k hp)))
theorem lstD_run {ds : List D} {vs : List V} {Q : VK} (k : Ok S.K W) (r : RpA S.K W vs ds) (h : Post S W σ (lstD ds W.M) (PV S Q)) : vs.length ≤ sizeLine ∧ ∀ p, W.H p = none → Q (.ref p) (upd W.H p (.lst vs)) := by
  obtain ⟨h1, h2⟩ := post_cond h
  refine ⟨by rw [r.length]; exact of_decide_eq_true h1, fun p hp => ?_⟩
  exact h2 (W.lay p (.lst vs)) (le_lay k hp) (k.lay hp) rfl _ (.lst (.inl upd_same) (k.frz_new hp) (r.mono (le_lay k hp)))
theorem newL_run {ds : List D} {vs : List V} {Q : VK} (k : Ok S.K W) (r : RpA S.K W vs ds) (h : Post S W σ (newL ds W.M) (PV S Q)) : vs.length ≤ sizeLine ∧ ∀ p, W.H p = none → Q (.ref p) (upd W.H p (.lst vs)) := by
  unfold newL at h
  cases e : lenOk ds.length with
  | false => rw [e] at h; exact (show False from h).elim
  | true =>
    rw [e] at h
    refine ⟨by rw [r.length]; exact of_decide_eq_true e, fun p hp => ?_⟩
    have h : ∀ W', Le S.K W W' → Ok S.K W' → W'.M = W.M ++ [.lst ds] → PV S Q (.ref W.M.length) W' := h
    have l := le_grow (K := S.K) (ho := .lst vs) (o := .lst ds) k hp
    refine h (W.grow p (.lst vs) (.lst ds)) l (k.grow hp ⟨vs, upd_same, r.mono l⟩) rfl _ (.ref ?_)
    show (W.β ++ [p])[W.M.length]? = some p
    rw [← k.len]; simp
theorem ex_tup {es : List Expr} {g : En → Mo (List D)} {x1 : Nat} {pos : Pos} (h : AX S es g) : EX S (.Tuple es x1 pos) (fun ρ => .bnd (g ρ) tupD) := by
  obtain ⟨ta, a1, a2⟩ := h.ex
  exact ⟨tTup ta, fun X c => pe_tup (a1 X c), fun W σ ρ Q k st h => a2 W σ ρ _ k st (Post.imp (Post.bnd h) fun ds W1 l1 k1 h1 vs rvs => tupD_run k1 rvs h1)⟩
theorem ex_lst {es : List Expr} {g : En → Mo (List D)} {pos : Pos} (h : AX S es g) : EX S (.List es pos) (fun ρ => .bnd (g ρ) lstD) := by
  obtain ⟨ta, a1, a2⟩ := h.ex
  exact ⟨tLst ta, fun X c => pe_lst (a1 X c), fun W σ ρ Q k st h => a2 W σ ρ _ k st (Post.imp (Post.bnd h) fun ds W1 l1 k1 h1 vs rvs => lstD_run k1 rvs h1)⟩
theorem ex_lstM {es : List Expr} {g : En → Mo (List D)} {pos : Pos} (h : AX S es g) : EX S (.List es pos) (fun ρ => .bnd (g ρ) newL) := by
  obtain ⟨ta, a1, a2⟩ := h.ex
  exact ⟨tLst ta, fun X c => pe_lst (a1 X c), fun W σ ρ Q k st h => a2 W σ ρ _ k st (Post.imp (Post.bnd h) fun ds W1 l1 k1 h1 vs rvs => newL_run k1 rvs h1)⟩

theorem ex_callB {id : String} {x : Str} {p pos : Pos} {e : Expr} {es : List Expr} {g : List D → Mo D} {fa : En → Mo (List D)} (hc : CXx S (.builtin id) g) (hg : Gs S x) (hm : S.mg x = none) (hv : bootBuiltins x = some (.builtin id)) (ha : AX S (e :: es) fa)
    (hn : x ≠ "__name__" := by decide) (hdb : (x == ("__debug__" : Str)) = false := by decide) (he : ∀ env : PySem.Env, starEach (e :: es) env = (false, eval e env) :: starEach es env := by intro; rfl) (hpl : ∀ env : PySem.Env, (backTo pos (starEach es env)).any (·.1) = false := by intro; rfl) :
    EX S (.Call (.Name x p) (e :: es) [] pos) (fun ρ => .bnd (fa ρ) g) := by
  obtain ⟨r, h1, h2⟩ := hc.ex
  obtain ⟨ta, a1, a2⟩ := ha.ex
  refine ⟨tCB r ta, fun X c => pe_callB (h1 X c) (gl_of c hg) (by rw [c.mg]; exact hm) hv (a1 X c) hn hdb (he X.env) (hpl X.env), fun W σ ρ Q k st h => ?_⟩
  exact a2 W σ ρ _ k st (Post.imp (Post.bnd h) fun ds W1 l1 k1 q vs rvs => h2 W1 σ vs ds Q k1 rvs q)
theorem ex_callTy {T : String} {x : Str} {p pos : Pos} {e : Expr} {es : List Expr} {g : List D → Mo D} {fa : En → Mo (List D)} (hc : CXx S (.type T) g) (hg : Gs S x) (hm : S.mg x = none) (hv : bootBuiltins x = some (.type T)) (ha : AX S (e :: es) fa)
    (hn : x ≠ "__name__" := by decide) (hdb : (x == ("__debug__" : Str)) = false := by decide) (he : ∀ env : PySem.Env, starEach (e :: es) env = (false, eval e env) :: starEach es env := by intro; rfl) (hpl : ∀ env : PySem.Env, (backTo pos (starEach es env)).any (·.1) = false := by intro; rfl) :
    EX S (.Call (.Name x p) (e :: es) [] pos) (fun ρ => .bnd (fa ρ) g) := by
  obtain ⟨r, h1, h2⟩ := hc.ex
  obtain ⟨ta, a1, a2⟩ := ha.ex
  refine ⟨tCB r ta, fun X c => pe_callTy (h1 X c) (gl_of c hg) (by rw [c.mg]; exact hm) hv (a1 X c) hn hdb (he X.env) (hpl X.env), fun W σ ρ Q k st h => ?_⟩
  exact a2 W σ ρ _ k st (Post.imp (Post.bnd h) fun ds W1 l1 k1 q vs rvs => h2 W1 σ vs ds Q k1 rvs q)
end
end DL
namespace DL
open PySem PySem.Spec PyProof.Rows L2

inductive Fl where
  | nx (ρ : En) | brk (ρ : En) | cnt (ρ : En) | ret (d : D) | exc (x : Str) (ρ : En)
abbrev Sn := En → Mem → Option (Fl × Mem)

def FlP (S : SC) (W' : Wd) (D : Ends) : Fl → Prop
  | .nx ρ => ∀ σ, StR S.K W' σ ρ → D.nx σ W'.H
  | .brk ρ => ∀ σ, StR S.K W' σ ρ → D.bk σ W'.H
  | .cnt ρ => ∀ σ, StR S.K W' σ ρ → D.ct σ W'.H
  | .ret d => ∀ v, Rp S.K W' v d → D.rt v W'.H
  | .exc x ρ => ∀ σ, StR S.K W' σ ρ → ∀ C, S.mg x = some (.ref C) → S.W (.ref C) none σ W'.H
def PostS (S : SC) (W : Wd) (r : Option (Fl × Mem)) (D : Ends) : Prop := match r with
  | none => False
  | some (f, M') => ∀ W', Le S.K W W' → Ok S.K W' → W'.M = M' → FlP S W' D f
/-- no error may come -/
def Post0 {α : Type} (S : SC) (W : Wd) (r : Rs α) (Q : α → Wd → Prop) : Prop := match r with
  | some (.ok a, M') => ∀ W', Le S.K W W' → Ok S.K W' → W'.M = M' → Q a W'
  | _ => False
section
variable {S : SC} {W W' : Wd} {σ : L2.St} {ρ : En} {D : Ends} {α : Type}
theorem PostS.mono {r : Option (Fl × Mem)} (e : Le S.K W W') (h : PostS S W r D) : PostS S W' r D := by
  cases r with
  | none => exact h
  | some p => obtain ⟨f, M'⟩ := p; exact fun W2 l k m => h W2 (e.trans l) k m
theorem PostS.at {f : Fl} (k : Ok S.K W) (h : PostS S W (some (f, W.M)) D) : FlP S W D f := h W (Le.refl _ _) k rfl
theorem Post0.mono {r : Rs α} {Q : α → Wd → Prop} (e : Le S.K W W') (h : Post0 S W r Q) : Post0 S W' r Q := by
  cases r with
  | none => exact h
  | some p =>
    obtain ⟨r, M'⟩ := p
    cases r with
    | ok a => exact fun W2 l k m => h W2 (e.trans l) k m
    | error x => exact h
theorem Post0.imp {r : Rs α} {Q Q' : α → Wd → Prop} (h : Post0 S W r Q) (i : ∀ a W', Le S.K W W' → Ok S.K W' → Q a W' → Q' a W') : Post0 S W r Q' := by
  cases r with
  | none => exact h
  | some p =>
    obtain ⟨r, M'⟩ := p
    cases r with
    | ok a => exact fun W2 l k m => i a W2 l k (h W2 l k m)
    | error x => exact h
theorem Post0.bnd {β : Type} {m : Mo α} {f : α → Mo β} {Q : β → Wd → Prop} (h : Post0 S W (Mo.bnd m f W.M) Q) : Post0 S W (m W.M) (fun a W1 => Post0 S W1 (f a W1.M) Q) := by
  unfold Mo.bnd at h
  cases e : m W.M with
  | none => rw [e] at h; exact h
  | some p =>
    rw [e] at h
    obtain ⟨r, M1⟩ := p
    cases r with
    | error x => exact h
    | ok a =>
      intro W1 l k hm
      subst hm
      exact Post0.mono l h
theorem Post0.ret {a : α} {Q : α → Wd → Prop} (k : Ok S.K W) (h : Post0 S W (Mo.ret a W.M) Q) : Q a W := h W (Le.refl _ _) k rfl
theorem Post0.post {r : Rs α} {Q : α → Wd → Prop} (h : Post0 S W r Q) : Post S W σ r Q := by
  cases r with
  | none => exact h
  | some p =>
    obtain ⟨r, M'⟩ := p
    cases r with
    | ok a => exact h
    | error x => exact h.elim
/-- an expression's result, then what follows -/
def sE (m : Mo α) (ρ : En) (f : α → Mem → Option (Fl × Mem)) : Mem → Option (Fl × Mem) := fun M => match m M with
  | none => none
  | some (.ok a, M1) => f a M1
  | some (.error x, M1) => some (.exc x ρ, M1)
theorem sE_ret (a : α) (ρ : En) (f : α → Mem → Option (Fl × Mem)) (M : Mem) : sE (.ret a) ρ f M = f a M := rfl
theorem PostS.sE {m : Mo α} {f : α → Mem → Option (Fl × Mem)} (st : StR S.K W σ ρ) (h : PostS S W (sE m ρ f W.M) D) : Post S W σ (m W.M) (fun a W1 => PostS S W1 (f a W1.M) D) := by
  unfold DL.sE at h
  cases e : m W.M with
  | none => rw [e] at h; exact h
  | some p =>
    rw [e] at h
    obtain ⟨r, M1⟩ := p
    cases r with
    | ok a =>
      intro W1 l k hm
      subst hm
      exact PostS.mono l h
    | error x =>
      intro W1 l k hm C hC
      exact h W1 l k hm σ (st.mono l) C hC
def SemS (S : SC) (t : TS) (g : Sn) : Prop := ∀ (W : Wd) (σ : L2.St) (ρ : En) (D : Ends), Ok S.K W → StR S.K W σ ρ → PostS S W (g ρ W.M) D → t D σ W.H
structure SX (S : SC) (st : Stmt) (g : Sn) : Prop where
  ex : ∃ t : TS, (∀ X, InC S X → PS X st t) ∧ SemS S t g
structure BX (S : SC) (st : List Stmt) (g : Sn) : Prop where
  ex : ∃ t : TS, (∀ X, InC S X → PSs X st t) ∧ SemS S t g

def sNext : Sn := fun ρ M => some (.nx ρ, M)
def sSeq (g1 g2 : Sn) : Sn := fun ρ M => match g1 ρ M with
  | some (.nx ρ1, M1) => g2 ρ1 M1
  | r => r
theorem sem_seq {t1 t2 : TS} {g1 g2 : Sn} (h1 : SemS S t1 g1) (h2 : SemS S t2 g2) : SemS S (tSeq t1 t2) (sSeq g1 g2) := by
  intro W σ ρ D k st h
  refine h1 W σ ρ _ k st ?_
  unfold sSeq at h
  cases e : g1 ρ W.M with
  | none => rw [e] at h; exact h
  | some p =>
    rw [e] at h
    obtain ⟨f, M1⟩ := p
    cases f with
    | nx ρ1 =>
      intro W1 l k1 hm σ1 st1
      subst hm
      exact h2 W1 σ1 ρ1 D k1 st1 (PostS.mono l h)
    | brk ρ1 => exact h
    | cnt ρ1 => exact h
    | ret d => exact h
    | exc x ρ1 => exact h
theorem bx_nil : BX S [] sNext := ⟨tNext, fun X c => pss_nil, fun W σ ρ D k st h => PostS.at k h σ st⟩
theorem bx_one {st : Stmt} {g : Sn} (h : SX S st g) : BX S [st] g := let ⟨t, h1, h2⟩ := h.ex; ⟨t, fun X c => pss_one (h1 X c), h2⟩
theorem bx_cons {st : Stmt} {rest : List Stmt} {g1 g2 : Sn} (h1 : SX S st g1) (h2 : BX S rest g2) : BX S (st :: rest) (sSeq g1 g2) := by
  obtain ⟨t1, a1, a2⟩ := h1.ex
  obtain ⟨t2, b1, b2⟩ := h2.ex
  exact ⟨tSeq t1 t2, fun X c => pss_cons (a1 X c) (b1 X c), sem_seq a2 b2⟩
theorem sx_pass {pos : Pos} : SX S (.Pass pos) sNext := ⟨tNext, fun X c => ps_pass, fun W σ ρ D k st h => PostS.at k h σ st⟩
theorem sx_break {pos : Pos} : SX S (.Break pos) (fun ρ M => some (.brk ρ, M)) := ⟨tBreak, fun X c => ps_break, fun W σ ρ D k st h => PostS.at k h σ st⟩
theorem sx_cont {pos : Pos} : SX S (.Continue pos) (fun ρ M => some (.cnt ρ, M)) := ⟨tCont, fun X c => ps_continue, fun W σ ρ D k st h => PostS.at k h σ st⟩
theorem sx_expr {e : Expr} {f : En → Mo DL.D} {pos : Pos} (he : EX S e f) (hs : ∀ env : PySem.Env, swapsWith e none pos.line env = pure false := by intro; rfl) : SX S (.Expr e pos) (fun ρ => sE (f ρ) ρ fun _ M => some (.nx ρ, M)) := by
  obtain ⟨te, e1, e2⟩ := he.ex
  exact ⟨tDrop te, fun X c => ps_expr (e1 X c) (hs X.env), fun W σ ρ D k st h => e2 W σ ρ _ k st (Post.imp (PostS.sE st h) fun a W1 l1 k1 h1 v rv => PostS.at k1 h1 σ (st.mono l1))⟩
theorem sx_ret {e : Expr} {f : En → Mo DL.D} {pos : Pos} (he : EX S e f) : SX S (.Return (some e) pos) (fun ρ => sE (f ρ) ρ fun d M => some (.ret d, M)) := by
  obtain ⟨te, e1, e2⟩ := he.ex
  exact ⟨tRet te, fun X c => ps_ret (e1 X c), fun W σ ρ D k st h => e2 W σ ρ _ k st (Post.imp (PostS.sE st h) fun a W1 l1 k1 h1 v rv => PostS.at k1 h1 v rv)⟩
theorem sx_retN {pos : Pos} : SX S (.Return none pos) (fun ρ M => some (.ret .non, M)) := ⟨tRetN, fun X c => ps_retN, fun W σ ρ D k st h => PostS.at k h _ .non⟩
def sIf (c : En → Mo Bool) (g1 g2 : Sn) : Sn := fun ρ => sE (c ρ) ρ fun b M => cond b (g1 ρ M) (g2 ρ M)
theorem sx_if {c : Expr} {a b : List Stmt} {fc : En → Mo Bool} {g1 g2 : Sn} {pos : Pos} (hc : TX S c fc) (ha : BX S a g1) (hb : BX S b g2) : SX S (.If c a b pos) (sIf fc g1 g2) := by
  obtain ⟨tc, c1, c2⟩ := hc.ex
  obtain ⟨ta, a1, a2⟩ := ha.ex
  obtain ⟨tb, b1, b2⟩ := hb.ex
  refine ⟨tIfS tc ta tb, fun X c => ps_if (c1 X c) (a1 X c) (b1 X c), fun W σ ρ D k st h => c2 W σ ρ _ k st (Post.imp (PostS.sE st h) fun z W1 l1 k1 h1 => ?_)⟩
  cases z with
  | true => rw [if_pos rfl]; exact a2 W1 σ ρ D k1 (st.mono l1) h1
  | false => exact b2 W1 σ ρ D k1 (st.mono l1) h1

def PR (S : SC) (Q : L2.St → Hp → Prop) : En → Wd → Prop := fun ρ W' => ∀ σ, StR S.K W' σ ρ → Q σ W'.H
def SemG (S : SC) (t : TG) (h : DL.D → En → Mo En) : Prop := ∀ (W : Wd) (σ : L2.St) (ρ : En) (v : V) (d : DL.D) (Q : L2.St → Hp → Prop), Ok S.K W → StR S.K W σ ρ → Rp S.K W v d → Post0 S W (h d ρ W.M) (PR S Q) → t v σ W.H Q
def SemGs (S : SC) (t : TGs) (h : List DL.D → En → Mo En) : Prop := ∀ (W : Wd) (σ : L2.St) (ρ : En) (v : List V) (d : List DL.D) (Q : L2.St → Hp → Prop), Ok S.K W → StR S.K W σ ρ → RpA S.K W v d → Post0 S W (h d ρ W.M) (PR S Q) → t v σ W.H Q
structure GX (S : SC) (tg : Expr) (h : DL.D → En → Mo En) : Prop where
  ex : ∃ t : TG, (∀ X, InC S X → PG X tg t) ∧ SemG S t h
structure GXs (S : SC) (tg : List Expr) (h : List DL.D → En → Mo En) : Prop where
  ex : ∃ t : TGs, (∀ X, InC S X → PGs X tg t) ∧ SemGs S t h
theorem loc_fn {X : Cx} {x : Str} (c : InC S X) (hx : S.sc.names.lookup x = some .local ∨ (S.fnc x = true ∧ S.sc.names.lookup x = some .cell)) : L2.Loc X.env.scope x ∧ (X.fn x = true ∨ X.env.scope.names.lookup x = some .local) := by
  unfold L2.Loc
  rw [c.sc]
  rcases hx with h | ⟨h1, h⟩
  · exact ⟨.inl h, .inr h⟩
  · exact ⟨.inr h, .inl (c.fn x h1)⟩
theorem gx_name (i : Nat) {x : Str} {pos : Pos} (hN : S.N.Nodup) (hi : S.N[i]? = some x := by rfl) (hx : S.sc.names.lookup x = some .local ∨ (S.fnc x = true ∧ S.sc.names.lookup x = some .cell) := by first | exact Or.inl rfl | exact Or.inr ⟨rfl, rfl⟩) :
    GX S (.Name x pos) (fun d ρ => .ret (ρ.set i (some d))) :=
  ⟨gName i, fun X c => pg_name (by rw [c.N]; exact hN) (by rw [c.N]; exact hi) (loc_fn c hx).1 (loc_fn c hx).2, fun W σ ρ v d Q k st r h => Post0.ret k h _ (st.set r i)⟩
def gNilD : List DL.D → En → Mo En := fun ds ρ => match ds with
  | [] => .ret ρ
  | _ => .stuck
def gConsD (h : DL.D → En → Mo En) (hs : List DL.D → En → Mo En) : List DL.D → En → Mo En := fun ds ρ => match ds with
  | d :: r => .bnd (h d ρ) fun ρ1 => hs r ρ1
  | _ => .stuck
theorem gxs_nil : GXs S [] gNilD := by
  refine ⟨gNil, fun X c => pgs_nil, fun W σ ρ v d Q k st r h => ?_⟩
  cases r with
  | nil => exact ⟨rfl, Post0.ret k h σ st⟩
  | cons _ _ => exact h.elim
theorem gxs_cons {e : Expr} {es : List Expr} {h' : DL.D → En → Mo En} {hs : List DL.D → En → Mo En} (h1 : GX S e h') (h2 : GXs S es hs)
    (ht : ∀ env : PySem.Env, (assignEach (e :: es) env).map (·.2) = assign e env :: (assignEach es env).map (·.2) := by intro; rfl) : GXs S (e :: es) (gConsD h' hs) := by
  obtain ⟨t1, a1, a2⟩ := h1.ex
  obtain ⟨t2, b1, b2⟩ := h2.ex
  refine ⟨gCons t1 t2, fun X c => pgs_cons (a1 X c) (b1 X c) (ht X.env), fun W σ ρ v d Q k st r h => ?_⟩
  cases r with
  | nil => exact h.elim
  | @cons v vs d ds r1 r2 =>
    have h : Post0 S W (Mo.bnd (h' d ρ) (fun ρ1 => hs ds ρ1) W.M) (PR S Q) := h
    refine ⟨v, vs, rfl, a2 W σ ρ v d _ k st r1 (Post0.imp (Post0.bnd h) fun ρ1 W1 l1 k1 q σ1 st1 => ?_)⟩
    exact b2 W1 σ1 ρ1 vs ds Q k1 st1 (r2.mono l1) q
/-- the items of a tuple -/
def itemsT (n : Nat) : DL.D → Mo (List DL.D)
  | .tup l => cond (decide (l.length = n)) (.ret l) .stuck
  | _ => .stuck
theorem gx_tup {es : List Expr} {kk : Nat} {pos : Pos} {n : Nat} {hs : List DL.D → En → Mo En} (h : GXs S es hs) (hn : ∀ env : PySem.Env, (assignEach es env).length = n := by intro; rfl) (hst : ∀ env : PySem.Env, (assignEach es env).findIdx? (·.1) = none := by intro; rfl) :
    GX S (.Tuple es kk pos) (fun d ρ => .bnd (itemsT n d) fun ds => hs ds ρ) := by
  obtain ⟨t, a1, a2⟩ := h.ex
  refine ⟨gTup S.F n t, fun X c => by have z := pg_tup (k := kk) (pos := pos) c.calm (a1 X c) (hn X.env) (hst X.env); rw [c.K] at z; exact z, fun W σ ρ v d Q k st r h => ?_⟩
  cases r with
  | @tup a xs ds h1 h2 =>
    have h := Post0.bnd h
    have h : Post0 S W ((cond (decide (ds.length = n)) (Mo.ret ds) Mo.stuck) W.M) (fun ds W1 => Post0 S W1 (hs ds ρ W1.M) (PR S Q)) := h
    by_cases e : ds.length = n
    · rw [decide_eq_true e] at h
      exact ⟨a, xs, rfl, h1, by rw [h2.length]; exact e, a2 W σ ρ xs ds Q k st h2 (Post0.ret k h)⟩
    · rw [decide_eq_false e] at h
      exact h.elim
  | _ => exact (show False from h).elim

/-- behind a target -/
def s0 (m : Mo En) : Mem → Option (Fl × Mem) := fun M => match m M with
  | some (.ok ρ, M1) => some (.nx ρ, M1)
  | _ => none
theorem s0_ret (ρ : En) (M : Mem) : s0 (.ret ρ) M = some (.nx ρ, M) := rfl
theorem PostS.s0 {m : Mo En} (h : PostS S W (s0 m W.M) D) : Post0 S W (m W.M) (PR S D.nx) := by
  unfold DL.s0 at h
  cases e : m W.M with
  | none => rw [e] at h; exact h
  | some p =>
    rw [e] at h
    obtain ⟨r, M1⟩ := p
    cases r with
    | ok a => exact h
    | error x => exact h
theorem sx_asg {tg e : Expr} {f : En → Mo DL.D} {g : DL.D → En → Mo En} {pos : Pos} (he : EX S e f) (hg : GX S tg g) (hs : ∀ env : PySem.Env, swapsWithSole [tg] e pos.line env = pure false := by intro; rfl) (hw : ∀ X, InC S X → swappedStores [tg] e X.env = pure none := by intros; rfl)
    (h1 : ∀ env : PySem.Env, (assignEach [tg] env).map (·.2) = [assign tg env] := by intro; rfl) : SX S (.Assign [tg] e pos) (fun ρ => sE (f ρ) ρ fun d => s0 (g d ρ)) := by
  obtain ⟨te, e1, e2⟩ := he.ex
  obtain ⟨tg', g1, g2⟩ := hg.ex
  refine ⟨tAsg te tg', fun X c => ps_asg (e1 X c) (g1 X c) (hs X.env) (hw X c) (h1 X.env), fun W σ ρ D k st h => ?_⟩
  exact e2 W σ ρ _ k st (Post.imp (PostS.sE st h) fun a W1 l1 k1 q v rv => g2 W1 σ ρ v a _ k1 (st.mono l1) rv (PostS.s0 q))
theorem sx_set (i : Nat) {x : Str} {e : Expr} {f : En → Mo DL.D} {pos pos' : Pos} (hN : S.N.Nodup) (he : EX S e f) (hi : S.N[i]? = some x := by rfl) (hx : S.sc.names.lookup x = some .local ∨ (S.fnc x = true ∧ S.sc.names.lookup x = some .cell) := by first | exact Or.inl rfl | exact Or.inr ⟨rfl, rfl⟩)
    (hs : ∀ X, InC S X → swapsWith e (some (.Name x pos')) pos.line X.env = pure false := by intros; rfl) : SX S (.Assign [.Name x pos'] e pos) (fun ρ => sE (f ρ) ρ fun d M => some (.nx (ρ.set i (some d)), M)) := by
  obtain ⟨te, e1, e2⟩ := he.ex
  refine ⟨tAsg te (gName i), fun X c => ps_set (by rw [c.N]; exact hN) (by rw [c.N]; exact hi) (loc_fn c hx).1 (e1 X c) (hs X c) (loc_fn c hx).2, fun W σ ρ D k st h => ?_⟩
  exact e2 W σ ρ _ k st (Post.imp (PostS.sE st h) fun a W1 l1 k1 q v rv => PostS.at k1 q _ ((st.mono l1).set rv i))
def par2 (i j : Nat) (ρ : En) : List DL.D → Mem → Option (Fl × Mem)
  | [a, b], M => some (.nx ((ρ.set i (some a)).set j (some b)), M)
  | _, _ => none
theorem sx_par (i j : Nat) {x y : Str} {a b : Expr} {fa : En → Mo (List DL.D)} {px py pt pos : Pos} {kt k2 : Nat} {pt2 : Pos} (hN : S.N.Nodup) (ha : AX S [a, b] fa) (hi : S.N[i]? = some x := by rfl) (hj : S.N[j]? = some y := by rfl) (hij : i ≠ j := by decide)
    (hx : S.sc.names.lookup x = some .local := by rfl) (hy : S.sc.names.lookup y = some .local := by rfl)
    (hw : ∀ X, InC S X → swappedStores [.Tuple [.Name x px, .Name y py] kt pt] (.Tuple [a, b] k2 pt2) X.env = pure (some [x, y]))
    (hs : ∀ env : PySem.Env, swapsWithSole [.Tuple [.Name x px, .Name y py] kt pt] (.Tuple [a, b] k2 pt2) pos.line env = pure false := by intro; rfl) :
    SX S (.Assign [.Tuple [.Name x px, .Name y py] kt pt] (.Tuple [a, b] k2 pt2) pos) (fun ρ => sE (fa ρ) ρ (par2 i j ρ)) := by
  obtain ⟨ta, a1, a2⟩ := ha.ex
  refine ⟨tPar i j ta, fun X c => ps_par c.calm (by rw [c.N]; exact hN) (by rw [c.N]; exact hi) (by rw [c.N]; exact hj) hij (by rw [c.sc]; exact hx) (by rw [c.sc]; exact hy) (a1 X c) (hw X c) (hs X.env), fun W σ ρ D k st h => ?_⟩
  refine a2 W σ ρ _ k st (Post.imp (PostS.sE st h) fun ds W1 l1 k1 q vs rvs => ?_)
  match ds, rvs, q with
  | [a, b], .cons (v := va) ra (.cons (v := vb) rb .nil), q =>
    exact ⟨va, vb, rfl, PostS.at k1 q _ (((st.mono l1).set ra i).set rb j)⟩
  | [], .nil, q => exact q.elim
  | [a], .cons _ .nil, q => exact q.elim
  | a :: b :: c :: r, _, q => exact q.elim
/-- x op= e -/
structure IpX (S : SC) (op : Operator) (g : DL.D → DL.D → Mo DL.D) : Prop where
  ex : ∃ r : TIp, (∀ X, InC S X → PIp X op r) ∧ ∀ (W : Wd) (σ : L2.St) (x y : V) (a b : DL.D) (Q : VK), Ok S.K W → Rp S.K W x a → Rp S.K W y b → Post S W σ (g a b W.M) (PV S Q) → r x y W.H Q
theorem sx_aug (i : Nat) {x : Str} {e : Expr} {op : Operator} {g : DL.D → DL.D → Mo DL.D} {f : En → Mo DL.D} {pos pos' : Pos} (hN : S.N.Nodup) (ho : IpX S op g) (he : EX S e f) (hi : S.N[i]? = some x := by rfl) (hx : S.sc.names.lookup x = some .local ∨ (S.fnc x = true ∧ S.sc.names.lookup x = some .cell) := by first | exact Or.inl rfl | exact Or.inr ⟨rfl, rfl⟩) :
    SX S (.AugAssign (.Name x pos') op e pos) (fun ρ => sE (.bnd (getV ρ i) fun a => .bnd (f ρ) fun b => g a b) ρ fun d M => some (.nx (ρ.set i (some d)), M)) := by
  obtain ⟨te, e1, e2⟩ := he.ex
  obtain ⟨r, o1, o2⟩ := ho.ex
  refine ⟨tAug i te r, fun X c => ps_aug (by rw [c.N]; exact hN) (by rw [c.N]; exact hi) (loc_fn c hx).1 (e1 X c) (o1 X c) (loc_fn c hx).2, fun W σ ρ D k st h => ?_⟩
  have h := Post.bnd (PostS.sE st h)
  by_cases e : ∃ d, ρ[i]? = some (some d)
  · obtain ⟨d, e⟩ := e
    rw [getV_some e] at h
    obtain ⟨v, h1, h2⟩ := st.2 i d e
    refine ⟨v, h1, e2 W σ ρ _ k st (Post.imp (Post.bnd (Post.ret k h)) fun b W1 l1 k1 q u ru => ?_)⟩
    refine o2 W1 σ v u d b _ k1 (h2.mono l1) ru (Post.imp q fun z W2 l2 k2 q2 w rw' => ?_)
    exact PostS.at k2 q2 _ (((st.mono l1).mono l2).set rw' i)
  · rw [getV_none fun d q => e ⟨d, q⟩] at h
    exact h.elim

structure Itd' where
  items : List DL.D
  gd : Option (Nat × O)
def gdOk (g : Option (Nat × O)) (M : Mem) : Prop := match g with
  | none => True
  | some (n, o) => M[n]? = some o
def ItOk (S : SC) (W0 : Wd) (J : It) (it : Itd') : Prop := it.items.length ≤ sizeLine ∧ ∀ W1, LeZ S.K W0 W1 → Ok S.K W1 → gdOk it.gd W1.M →
  (∀ i, i < it.items.length → J.go i W1.H ∧ ∀ x H', J.yld i W1.H x H' → ∃ W2, Le S.K W1 W2 ∧ Ok S.K W2 ∧ W2.M = W1.M ∧ W2.H = H' ∧ ∃ d, it.items[i]? = some d ∧ Rp S.K W2 x d) ∧ J.stop it.items.length W1.H
def SemI (S : SC) (wi : TI) (f : En → Mo Itd') : Prop := ∀ (W : Wd) (σ : L2.St) (ρ : En) (R : It → Hp → Prop), Ok S.K W → StR S.K W σ ρ → Post S W σ (f ρ W.M) (fun it W' => ∀ J, ItOk S W' J it → R J W'.H) → wi σ W.H R
structure IX (S : SC) (tg iter : Expr) (f : En → Mo Itd') : Prop where
  ex : ∃ wi : TI, (∀ X, InC S X → PI X tg iter wi) ∧ SemI S wi f
open Classical in
noncomputable def guardM (g : Option (Nat × O)) (k : Mem → Option α) : Mem → Option α := fun M => if gdOk g M then k M else none
theorem guardM_none (k : Mem → Option α) (M : Mem) : guardM none k M = k M := if_pos trivial
theorem guardM_some {n : Nat} {o : O} {k : Mem → Option α} {M : Mem} (h : M[n]? = some o) : guardM (some (n, o)) k M = k M := if_pos h
/-- behind a turn of a loop -/
def turnK (r : Option (Fl × Mem)) (k : En → Mem → Option (Fl × Mem)) : Option (Fl × Mem) := match r with
  | some (.nx ρ2, M2) => k ρ2 M2
  | some (.cnt ρ2, M2) => k ρ2 M2
  | some (.brk ρ2, M2) => some (.nx ρ2, M2)
  | z => z
def assK (r : Rs En) (k : En → Mem → Option (Fl × Mem)) : Option (Fl × Mem) := match r with
  | some (.ok ρ1, M1) => k ρ1 M1
  | _ => none
noncomputable def forL (g : Option (Nat × O)) (h : DL.D → En → Mo En) (body : Sn) : List DL.D → Sn
  | [], ρ => guardM g fun M => some (.nx ρ, M)
  | d :: r, ρ => guardM g fun M => assK (h d ρ M) fun ρ1 M1 => turnK (body ρ1 M1) (forL g h body r)
theorem turnK_run {r : Option (Fl × Mem)} {k : En → Mem → Option (Fl × Mem)} {N : L2.St → Hp → Prop} (h : PostS S W (turnK r k) D) (hN : ∀ W' σ' ρ', Le S.K W W' → Ok S.K W' → StR S.K W' σ' ρ' → PostS S W' (k ρ' W'.M) D → N σ' W'.H) :
    PostS S W r { D with nx := N, ct := N, bk := D.nx } := by
  cases r with
  | none => exact h
  | some p =>
    obtain ⟨f, M5⟩ := p
    cases f with
    | nx ρ5 =>
      intro W5 l6 k5 hm5 σ5 st5
      subst hm5
      exact hN W5 σ5 ρ5 l6 k5 st5 (PostS.mono l6 h)
    | cnt ρ5 =>
      intro W5 l6 k5 hm5 σ5 st5
      subst hm5
      exact hN W5 σ5 ρ5 l6 k5 st5 (PostS.mono l6 h)
    | brk ρ5 => exact h
    | ret d => exact h
    | exc x ρ5 => exact h
theorem assK_run {r : Rs En} {k : En → Mem → Option (Fl × Mem)} (h : PostS S W (assK r k) D) : Post0 S W r (fun ρ1 W1 => PostS S W1 (k ρ1 W1.M) D) := by
  cases r with
  | none => exact h
  | some p =>
    obtain ⟨f, M5⟩ := p
    cases f with
    | error x => exact h
    | ok ρ1 =>
      intro W5 l6 k5 hm5
      subst hm5
      exact PostS.mono l6 h
theorem guardM_run {g : Option (Nat × O)} {k : Mem → Option (Fl × Mem)} (h : PostS S W (guardM g k W.M) D) : gdOk g W.M ∧ PostS S W (k W.M) D := by
  by_cases hg : gdOk g W.M
  · exact ⟨hg, by have e : guardM g k W.M = k W.M := if_pos hg
                  rw [e] at h; exact h⟩
  · have e : guardM g k W.M = none := if_neg hg
    rw [e] at h; exact h.elim
noncomputable def sFor (f : En → Mo Itd') (h : DL.D → En → Mo En) (body : Sn) : Sn := fun ρ => sE (f ρ) ρ fun it => forL it.gd h body it.items ρ
theorem sem_for {wi : TI} {f : En → Mo Itd'} {tg : TG} {h : DL.D → En → Mo En} {tb : TS} {body : Sn} (hi : SemI S wi f) (hg : SemG S tg h) (hb : SemS S tb body) : SemS S (tFor wi tg tb) (sFor f h body) := by
  intro W σ ρ D k st hh
  refine hi W σ ρ _ k st (Post.imp (PostS.sE st hh) fun it W1 l1 k1 q J hJ => ?_)
  refine ⟨fun i m σ' H' => m = it.items.length - i ∧ i ≤ it.items.length ∧ ∃ W2 ρ2, Le S.K W1 W2 ∧ Ok S.K W2 ∧ W2.H = H' ∧ StR S.K W2 σ' ρ2 ∧ PostS S W2 (forL it.gd h body (it.items.drop i) ρ2 W2.M) D, ⟨it.items.length, by simp, Nat.zero_le _, W1, ρ, Le.refl _ _, k1, rfl, st.mono l1, q⟩, ?_⟩
  rintro i m σ' H' ⟨rfl, hi, W2, ρ2, l2, k2, rfl, st2, q2⟩
  by_cases hlt : i < it.items.length
  · rw [List.drop_eq_getElem_cons hlt] at q2
    obtain ⟨hgd, q3⟩ := guardM_run (show PostS S W2 (guardM it.gd (fun M => assK (h it.items[i] ρ2 M) fun ρ1 M1 => turnK (body ρ1 M1) (forL it.gd h body (it.items.drop (i + 1)))) W2.M) D from q2)
    obtain ⟨go, yl⟩ := (hJ.2 W2 l2.toZ k2 hgd).1 i hlt
    refine .inr ⟨go, fun σ3 H3 => ∃ W3 ρ3, Le S.K W1 W3 ∧ Ok S.K W3 ∧ W3.H = H3 ∧ StR S.K W3 σ3 ρ3 ∧ PostS S W3 (forL it.gd h body (it.items.drop (i + 1)) ρ3 W3.M) D, ?_, ?_⟩
    · rintro σ3 H3 ⟨W3, ρ3, a1, a2, a3, a4, a5⟩
      exact ⟨it.items.length - (i + 1), by omega, rfl, hlt, W3, ρ3, a1, a2, a3, a4, a5⟩
    · intro x H' hy
      obtain ⟨W3, l3, k3, m3, rfl, d, hd, rd⟩ := yl x H' hy
      have hd' : d = it.items[i] := by
        rw [List.getElem?_eq_getElem hlt] at hd
        exact (Option.some.inj hd).symm
      subst hd'
      have q3 := PostS.mono l3 q3
      rw [← m3] at q3
      refine hg W3 σ' ρ2 x _ _ k3 (st2.mono l3) rd (Post0.imp (assK_run q3) fun ρ4 W4 l4 k4 q4 σ4 st4 => ?_)
      refine hb W4 σ4 ρ4 _ k4 st4 (turnK_run q4 fun W5 σ5 ρ5 l5 k5 st5 q5 => ?_)
      exact ⟨W5, ρ5, ((l2.trans l3).trans l4).trans l5, k5, rfl, st5, q5⟩
  · have e : i = it.items.length := by omega
    subst e
    rw [List.drop_length] at q2
    obtain ⟨hgd, q3⟩ := guardM_run (show PostS S W2 (guardM it.gd (fun M => some (.nx ρ2, M)) W2.M) D from q2)
    exact .inl ⟨(hJ.2 W2 l2.toZ k2 hgd).2, PostS.at k2 q3 σ' st2⟩
theorem sx_for {tg iter : Expr} {body : List Stmt} {f : En → Mo Itd'} {h : DL.D → En → Mo En} {g : Sn} {pos : Pos} (hdf : S.df = true) (hi : IX S tg iter f) (hg : GX S tg h) (hb : BX S body g)
    (hs : ∀ (env : PySem.Env) x, foldedSetIterable iter env x = pure x := by intro _ _; rfl) : SX S (.For tg iter body [] pos) (sFor f h g) := by
  obtain ⟨wi, i1, i2⟩ := hi.ex
  obtain ⟨t, g1, g2⟩ := hg.ex
  obtain ⟨tb, b1, b2⟩ := hb.ex
  exact ⟨tFor wi t tb, fun X c => ps_for (c.own hdf) c.calm (i1 X c) (g1 X c) (b1 X c) (hs X.env), sem_for i2 g2 b2⟩
/-- while: at most n turns -/
def whileN (c : En → Mo Bool) (body : Sn) : Nat → Sn
  | 0, _, _ => none
  | n + 1, ρ, M => sE (c ρ) ρ (fun b M1 => cond b (turnK (body ρ M1) (whileN c body n)) (some (.nx ρ, M1))) M
theorem sem_while {tc : TT} {c : En → Mo Bool} {tb : TS} {body : Sn} (n : Nat) (hc : SemT S tc c) (hb : SemS S tb body) : SemS S (tWhile tc tb) (whileN c body n) := by
  intro W σ ρ D k st hh
  refine ⟨fun m σ' H' => ∃ W2 ρ2, Ok S.K W2 ∧ W2.H = H' ∧ StR S.K W2 σ' ρ2 ∧ PostS S W2 (whileN c body m ρ2 W2.M) D, ⟨n, W, ρ, k, rfl, st, hh⟩, ?_⟩
  rintro m σ' H' ⟨W2, ρ2, k2, rfl, st2, q2⟩
  cases m with
  | zero => exact q2.elim
  | succ m =>
    refine hc W2 σ' ρ2 _ k2 st2 (Post.imp (PostS.sE st2 (f := fun b M1 => cond b (turnK (body ρ2 M1) (whileN c body m)) (some (.nx ρ2, M1))) q2) fun b W3 l3 k3 q3 => ?_)
    cases b with
    | false => exact PostS.at k3 q3 σ' (st2.mono l3)
    | true =>
      rw [if_pos rfl]
      refine ⟨fun σ4 H4 => ∃ W4 ρ4, Ok S.K W4 ∧ W4.H = H4 ∧ StR S.K W4 σ4 ρ4 ∧ PostS S W4 (whileN c body m ρ4 W4.M) D, fun σ4 H4 q4 => ⟨m, Nat.lt_succ_self m, q4⟩, ?_⟩
      exact hb W3 σ' ρ2 _ k3 (st2.mono l3) (turnK_run q3 fun W5 σ5 ρ5 l5 k5 st5 q5 => ⟨W5, ρ5, k5, rfl, st5, q5⟩)
theorem sx_while (n : Nat) {c : Expr} {body : List Stmt} {fc : En → Mo Bool} {g : Sn} {pos : Pos} (hdf : S.df = true) (hc : TX S c fc) (hb : BX S body g) : SX S (.While c body [] pos) (whileN fc g n) := by
  obtain ⟨tc, c1, c2⟩ := hc.ex
  obtain ⟨tb, b1, b2⟩ := hb.ex
  exact ⟨tWhile tc tb, fun X c => ps_while (c.own hdf) (c1 X c) (b1 X c), sem_while n c2 b2⟩
end
end DL
namespace DL
open PySem PySem.Spec PyProof.Rows L2

mutual
/-- references replaced -/
def subst (f : Nat → Option D) : D → Option D
  | .non => some .non
  | .bl b => some (.bl b)
  | .int i => some (.int i)
  | .str x => some (.str x)
  | .tup l => (substL f l).map .tup
  | .lst l => (substL f l).map .lst
  | .dct t l => (substK f l).map (.dct t)
  | .ref n => f n
  | .obj a => some (.obj a)
  | .ty n => some (.ty n)
  | .set l => some (.set l)
  | .seti l => some (.seti l)
def substL (f : Nat → Option D) : List D → Option (List D)
  | [] => some []
  | d :: r => match subst f d, substL f r with
    | some d', some r' => some (d' :: r')
    | _, _ => none
def substK (f : Nat → Option D) : List (D × D) → Option (List (D × D))
  | [] => some []
  | (k, d) :: r => match subst f d, substK f r with
    | some d', some r' => some ((k, d') :: r')
    | _, _ => none
end
mutual
def noref : D → Bool
  | .tup l => norefL l
  | .lst l => norefL l
  | .dct _ l => norefK l
  | .ref _ => false
  | _ => true
def norefL : List D → Bool
  | [] => true
  | d :: r => noref d && norefL r
def norefK : List (D × D) → Bool
  | [] => true
  | (_, d) :: r => noref d && norefK r
end
mutual
theorem subst_noref {f : Nat → Option D} : ∀ {d : D}, noref d = true → subst f d = some d
  | .non, _ => rfl
  | .bl b, _ => rfl
  | .int i, _ => rfl
  | .str x, _ => rfl
  | .tup l, h => by rw [subst, substL_noref (by simpa [noref] using h)]; rfl
  | .lst l, h => by rw [subst, substL_noref (by simpa [noref] using h)]; rfl
  | .dct t l, h => by rw [subst, substK_noref (by simpa [noref] using h)]; rfl
  | .ref n, h => by simp [noref] at h
  | .obj a, _ => rfl
  | .ty n, _ => rfl
  | .set l, _ => rfl
  | .seti l, _ => rfl
theorem substL_noref {f : Nat → Option D} : ∀ {d : List D}, norefL d = true → substL f d = some d
  | [], _ => rfl
  | d :: r, h => by
    simp only [norefL, Bool.and_eq_true] at h
    rw [substL, subst_noref h.1, substL_noref h.2]
theorem substK_noref {f : Nat → Option D} : ∀ {d : List (D × D)}, norefK d = true → substK f d = some d
  | [], _ => rfl
  | (k, d) :: r, h => by
    simp only [norefK, Bool.and_eq_true] at h
    rw [substK, subst_noref h.1, substK_noref h.2]
end
theorem norefL_all (l : List D) : norefL l = l.all noref := by
  induction l with
  | nil => rfl
  | cons d r ih => simp [norefL, ih]
section
variable {K : KP} {W W' : Wd}
/-- a description goes over, its references through f -/
structure Over (K : KP) (W W' : Wd) (f : Nat → Option D) : Prop where
  H : W'.H = W.H
  frz : ∀ a, W.frz a → W'.frz a
  f : ∀ (n : Nat) (a : Addr) (d : D), W.β[n]? = some a → f n = some d → Rp K W' (.ref a) d
mutual
theorem rp_subst {f : Nat → Option D} (o : Over K W W' f) : ∀ {v : V} {d d' : D}, Rp K W v d → subst f d = some d' → Rp K W' v d'
  | _, _, _, .non, h => by cases h; exact .non
  | _, _, _, .bl b, h => by cases h; exact .bl b
  | _, _, _, .int i, h => by cases h; exact .int i
  | _, _, _, .str x, h => by cases h; exact .str x
  | _, _, _, .tup (ds := ds) h1 r, h => by
    rw [subst] at h
    cases e : substL f ds with
    | none => rw [e] at h; cases h
    | some ds' => rw [e] at h; cases h; exact .tup (by rw [o.H]; exact h1) (rpa_subst o r e)
  | _, _, _, .lst (ds := ds) h1 f1 r, h => by
    rw [subst] at h
    cases e : substL f ds with
    | none => rw [e] at h; cases h
    | some ds' => rw [e] at h; cases h; exact .lst (by rw [o.H]; exact h1) (o.frz _ f1) (rpa_subst o r e)
  | _, _, _, .lstK (ds := ds) h1 r, h => by
    rw [subst] at h
    cases e : substL f ds with
    | none => rw [e] at h; cases h
    | some ds' => rw [e] at h; cases h; exact .lstK h1 (rpa_subst o r e)
  | _, _, _, .dK (ds := ds) h1 f1 r, h => by
    rw [subst] at h
    cases e : substK f ds with
    | none => rw [e] at h; cases h
    | some ds' => rw [e] at h; cases h; exact .dK (by rw [o.H]; exact h1) (o.frz _ f1) (rpk_subst o r e)
  | _, _, _, .dT (ds := ds) h1 f1 q1 r, h => by
    rw [subst] at h
    cases e : substK f ds with
    | none => rw [e] at h; cases h
    | some ds' => rw [e] at h; cases h; exact .dT (by rw [o.H]; exact h1) (o.frz _ f1) (by rw [o.H]; exact q1) (rpt_subst o r e)
  | _, _, _, .ref h1, h => o.f _ _ _ h1 h
  | _, _, _, .obj a, h => by cases h; exact .obj a
  | _, _, _, .ty n, h => by cases h; exact .ty n
  | _, _, _, .set h1, h => by cases h; exact .set (by unfold SetAt at h1 ⊢; rw [o.H]; exact h1)
  | _, _, _, .seti h1, h => by cases h; exact .seti (by unfold SetIAt at h1 ⊢; rw [o.H]; exact h1)
theorem rpa_subst {f : Nat → Option D} (o : Over K W W' f) : ∀ {v : List V} {d d' : List D}, RpA K W v d → substL f d = some d' → RpA K W' v d'
  | _, _, _, .nil, h => by cases h; exact .nil
  | _, _, _, .cons (d := d) (ds := ds) h1 h2, h => by
    rw [substL] at h
    cases e : subst f d with
    | none => rw [e] at h; cases h
    | some d1 =>
      cases e2 : substL f ds with
      | none => rw [e, e2] at h; cases h
      | some ds1 => rw [e, e2] at h; cases h; exact .cons (rp_subst o h1 e) (rpa_subst o h2 e2)
theorem rpk_subst {f : Nat → Option D} (o : Over K W W' f) : ∀ {v : List (Key × V)} {d d' : List (D × D)}, RpK K W v d → substK f d = some d' → RpK K W' v d'
  | _, _, _, .nil, h => by cases h; exact .nil
  | _, _, _, .cons (d := d) (ds := ds) h1 h2, h => by
    rw [substK] at h
    cases e : subst f d with
    | none => rw [e] at h; cases h
    | some d1 =>
      cases e2 : substK f ds with
      | none => rw [e, e2] at h; cases h
      | some ds1 => rw [e, e2] at h; cases h; exact .cons (rp_subst o h1 e) (rpk_subst o h2 e2)
theorem rpt_subst {f : Nat → Option D} (o : Over K W W' f) : ∀ {v : List (List Key × V)} {d d' : List (D × D)}, RpT K W v d → substK f d = some d' → RpT K W' v d'
  | _, _, _, .nil, h => by cases h; exact .nil
  | _, _, _, .cons (d := d) (ds := ds) h1 h2, h => by
    rw [substK] at h
    cases e : subst f d with
    | none => rw [e] at h; cases h
    | some d1 =>
      cases e2 : substK f ds with
      | none => rw [e, e2] at h; cases h
      | some ds1 => rw [e, e2] at h; cases h; exact .cons (rp_subst o h1 e) (rpt_subst o h2 e2)
end
/-- refs below n stay -/
def lowF (n0 : Nat) (n : Nat) : Option D := if n < n0 then some (.ref n) else none
mutual
theorem subst_low {n0 : Nat} {f : Nat → Option D} (hf : ∀ n, n < n0 → f n = some (.ref n)) : ∀ {v : V} {d : D}, W.β.length ≤ n0 → Rp K W v d → subst f d = some d
  | _, _, _, .non => rfl
  | _, _, _, .bl b => rfl
  | _, _, _, .int i => rfl
  | _, _, _, .str x => rfl
  | _, _, h, .tup h1 r => by rw [subst, substL_low hf h r]; rfl
  | _, _, h, .lst h1 f1 r => by rw [subst, substL_low hf h r]; rfl
  | _, _, h, .lstK h1 r => by rw [subst, substL_low hf h r]; rfl
  | _, _, h, .dK h1 f1 r => by rw [subst, substK_low hf h r]; rfl
  | _, _, h, .dT h1 f1 q1 r => by rw [subst, substT_low hf h r]; rfl
  | _, _, h, .ref h1 => hf _ (Nat.lt_of_lt_of_le (List.getElem?_eq_some_iff.mp h1).1 h)
  | _, _, _, .obj a => rfl
  | _, _, _, .ty n => rfl
  | _, _, _, .set _ => rfl
  | _, _, _, .seti _ => rfl
theorem substL_low {n0 : Nat} {f : Nat → Option D} (hf : ∀ n, n < n0 → f n = some (.ref n)) : ∀ {v : List V} {d : List D}, W.β.length ≤ n0 → RpA K W v d → substL f d = some d
  | _, _, _, .nil => rfl
  | _, _, h, .cons h1 h2 => by rw [substL, subst_low hf h h1, substL_low hf h h2]
theorem substK_low {n0 : Nat} {f : Nat → Option D} (hf : ∀ n, n < n0 → f n = some (.ref n)) : ∀ {v : List (Key × V)} {d : List (D × D)}, W.β.length ≤ n0 → RpK K W v d → substK f d = some d
  | _, _, _, .nil => rfl
  | _, _, h, .cons h1 h2 => by rw [substK, subst_low hf h h1, substK_low hf h h2]
theorem substT_low {n0 : Nat} {f : Nat → Option D} (hf : ∀ n, n < n0 → f n = some (.ref n)) : ∀ {v : List (List Key × V)} {d : List (D × D)}, W.β.length ≤ n0 → RpT K W v d → substK f d = some d
  | _, _, _, .nil => rfl
  | _, _, h, .cons h1 h2 => by rw [substK, subst_low hf h h1, substT_low hf h h2]
end
end
/-- what stands at a place, as a tree -/
def frF (M : Mem) (n0 : Nat) : Nat → Nat → Option D
  | 0, n => if n < n0 then some (.ref n) else none
  | k + 1, n => if n < n0 then some (.ref n) else match M[n]? with
    | some (.lst l) => (substL (frF M n0 k) l).map .lst
    | some (.dct t l) => (substK (frF M n0 k) l).map (.dct t)
    | _ => none
def frO (f : Nat → Option D) : O → Option O
  | .lst l => (substL f l).map .lst
  | .dct t l => (substK f l).map (.dct t)
  | .ins C fs => (substL f (fs.map (·.2))).map fun l => .ins C ((fs.map (·.1)).zip l)
  | .dead => some .dead
open Classical in
/-- the memory as it was grown ahead of a call, behind it -/
noncomputable def finM (M0 M : Mem) : Option Mem := if M.take M0.length = M0 then some M0 else (M.take M0.length).mapM (frO (frF M M0.length 3))
noncomputable def fin (M0 M : Mem) (d : D) : Rs D := match subst (frF M M0.length 3) d, finM M0 M with
  | some d', some M' => some (.ok d', M')
  | _, _ => none
noncomputable def fnR (M0 : Mem) (r : Option (Fl × Mem)) : Rs D := match r with
  | some (.ret d, M) => fin M0 M d
  | some (.nx _, M) => fin M0 M .non
  | some (.exc x _, M) => (finM M0 M).map fun M' => (.error x, M')
  | _ => none
/-- .. what was made stays open to change -/
def fnW (r : Option (Fl × Mem)) : Rs D := match r with
  | some (.ret d, M) => some (.ok d, M)
  | some (.nx _, M) => some (.ok .non, M)
  | some (.exc x _, M) => some (.error x, M)
  | _ => none
section
variable {K : KP} {W W2 : Wd}
theorem zip_self {α β : Type} : ∀ fs : List (α × β), (fs.map (·.1)).zip (fs.map (·.2)) = fs
  | [] => rfl
  | p :: r => by simp [zip_self r]
theorem mapM_some {α β : Type} {f : α → Option β} : ∀ {l : List α} {r : List β}, l.mapM f = some r → r.length = l.length ∧ ∀ (n : Nat) (a : α), l[n]? = some a → ∃ b, r[n]? = some b ∧ f a = some b
  | [], r, h => by
    simp at h; subst h; exact ⟨rfl, fun n a e => by simp at e⟩
  | x :: l, r, h => by
    rw [List.mapM_cons] at h
    cases e : f x with
    | none => rw [e] at h; cases h
    | some y =>
      cases e2 : l.mapM f with
      | none => rw [e, e2] at h; cases h
      | some r' =>
        rw [e, e2] at h
        cases h
        obtain ⟨h1, h2⟩ := mapM_some e2
        refine ⟨by simp [h1], fun n a q => ?_⟩
        cases n with
        | zero => simp at q; subst q; exact ⟨y, rfl, e⟩
        | succ n => simpa using h2 n a (by simpa using q)
theorem finM_run (k : Ok K W) (k2 : Ok K W2) (l : Le K W W2) {M' : Mem} (h : finM W.M W2.M = some M') :
    ∃ W3 : Wd, W3.M = M' ∧ W3.H = W2.H ∧ Le K W W3 ∧ Ok K W3 ∧ ∀ j, Over K W2 W3 (frF W2.M W.M.length j) := by
  have hlen : W.β.length ≤ W2.β.length := by
    rcases Nat.lt_or_ge W2.β.length W.β.length with h | h
    · have e : W.β[W2.β.length]? = some W.β[W2.β.length] := List.getElem?_eq_getElem h
      have := List.getElem?_eq_some_iff.mp (l.β _ _ e)
      exact absurd this.1 (Nat.lt_irrefl _)
    · exact h
  have hβ : W2.β.take W.β.length = W.β := by
    apply List.ext_getElem?
    intro n
    by_cases hn : n < W.β.length
    · rw [List.getElem?_take_of_lt hn, List.getElem?_eq_getElem hn]
      exact l.β _ _ (List.getElem?_eq_getElem hn)
    · rw [List.getElem?_eq_none (by simp; omega), List.getElem?_eq_none (by omega)]
  -- the objects of the memory behind
  have key : M'.length = W.M.length ∧ ∀ (n : Nat) (o : O), n < W.M.length → W2.M[n]? = some o → ∃ o', M'[n]? = some o' ∧ ((o' = o ∧ ∀ a, W.β[n]? = some a → OOk K W a o) ∨ frO (frF W2.M W.M.length 3) o = some o') := by
    unfold finM at h
    by_cases e : W2.M.take W.M.length = W.M
    · rw [if_pos e] at h
      cases h
      refine ⟨rfl, fun n o hn ho => ⟨o, ?_, .inl ⟨rfl, fun a ha => ?_⟩⟩⟩
      · rw [← e, List.getElem?_take_of_lt hn]; exact ho
      · exact k.ob n a o ha (by rw [← e, List.getElem?_take_of_lt hn]; exact ho)
    · rw [if_neg e] at h
      obtain ⟨h1, h2⟩ := mapM_some h
      have hl2 : W.M.length ≤ W2.M.length := by rw [← k.len, ← k2.len]; exact hlen
      refine ⟨by rw [h1, List.length_take]; omega, fun n o hn ho => ?_⟩
      obtain ⟨o', q1, q2⟩ := h2 n o (by rw [List.getElem?_take_of_lt hn]; exact ho)
      exact ⟨o', q1, .inr q2⟩
  obtain ⟨hM, hob⟩ := key
  let W3 : Wd := { β := W.β, M := M', H := W2.H, pv := W.pv }
  have hfrz : ∀ a, W2.frz a → W3.frz a := fun a f => by
    refine ⟨fun n hn => ?_, fun hq => f.2 (l.x a hq).1⟩
    have hn' : W.β[n]? = some a := hn
    have hlt : n < W.M.length := by rw [← k.len]; exact (List.getElem?_eq_some_iff.mp hn').1
    obtain ⟨o', q1, q2⟩ := hob n .dead hlt (f.1 n (l.β n a hn'))
    rcases q2 with ⟨rfl, _⟩ | q2
    · exact q1
    · cases q2; exact q1
  have hover : ∀ j, Over K W2 W3 (frF W2.M W.M.length j) := by
    intro j
    induction j with
    | zero =>
      refine ⟨rfl, hfrz, fun n a d hn hd => ?_⟩
      unfold frF at hd
      by_cases hlt : n < W.M.length
      · rw [if_pos hlt] at hd; cases hd
        refine .ref ?_
        show W.β[n]? = some a
        rw [← hβ, List.getElem?_take_of_lt (by rw [k.len]; exact hlt)]; exact hn
      · rw [if_neg hlt] at hd; cases hd
    | succ j ih =>
      refine ⟨rfl, hfrz, fun n a d hn hd => ?_⟩
      unfold frF at hd
      by_cases hlt : n < W.M.length
      · rw [if_pos hlt] at hd; cases hd
        refine .ref ?_
        show W.β[n]? = some a
        rw [← hβ, List.getElem?_take_of_lt (by rw [k.len]; exact hlt)]; exact hn
      · rw [if_neg hlt] at hd
        obtain ⟨o, ho, ok⟩ := k2.at hn
        rw [ho] at hd
        have fz : W3.frz a := by
          refine ⟨fun m hm => ?_, fun hq => k2.pn a (l.x a hq).1 (List.mem_of_getElem? hn)⟩
          have hm' : W.β[m]? = some a := hm
          have hm2 := l.β m a hm'
          have : m = n := (List.getElem?_inj (List.getElem?_eq_some_iff.mp hm2).1 k2.nd).mp (hm2.trans hn.symm)
          subst this
          exact absurd (by rw [← k.len]; exact (List.getElem?_eq_some_iff.mp hm').1) hlt
        cases o with
        | lst ds =>
          simp only at hd
          cases e : substL (frF W2.M W.M.length j) ds with
          | none => rw [e] at hd; cases hd
          | some ds' =>
            rw [e] at hd; cases hd
            obtain ⟨xs, h1, h2⟩ := ok
            exact .lst (.inl h1) fz (rpa_subst ih h2 e)
        | dct t ds =>
          simp only at hd
          cases e : substK (frF W2.M W.M.length j) ds with
          | none => rw [e] at hd; cases hd
          | some ds' =>
            rw [e] at hd; cases hd
            cases t
            · obtain ⟨xs, h1, h2⟩ := ok
              exact .dK (.inl h1) fz (rpk_subst ih h2 e)
            · obtain ⟨xs, kvs, h1, h2, h3⟩ := ok
              exact .dT (.inl h1) fz h2 (rpt_subst ih h3 e)
        | ins C fs => cases hd
        | dead => cases hd
  refine ⟨W3, rfl, rfl, ⟨fun n a h => h, l.t, fun a xs h f => ?_, fun a xs h f => ?_, fun a xs h f => ?_, l.z, fun a h => ⟨h, (l.x a h).2⟩⟩, ⟨?_, k.nd, fun n a o hn ho => ?_, k.pn, fun a h => by
    obtain ⟨u, e⟩ := k.ph a h
    exact ⟨u, (l.x a h).2.trans e⟩, fun a h => ⟨(k2.tb a h).1, (k.tb a h).2⟩⟩, hover⟩
  · exact ⟨(l.l a xs h f).1, hfrz a (l.l a xs h f).2⟩
  · exact ⟨(l.k a xs h f).1, hfrz a (l.k a xs h f).2⟩
  · exact ⟨(l.kt a xs h f).1, hfrz a (l.kt a xs h f).2⟩
  · show W.β.length = M'.length
    rw [hM, k.len]
  · have hn' : W.β[n]? = some a := hn
    have hlt : n < W.M.length := by rw [← k.len]; exact (List.getElem?_eq_some_iff.mp hn').1
    obtain ⟨o2, ho2, ok2⟩ := k2.at (l.β n a hn')
    obtain ⟨o', q1, q2⟩ := hob n o2 hlt ho2
    have eo : o' = o := Option.some.inj (q1.symm.trans ho)
    subst eo
    have ov := hover 3
    have low : ∀ m, m < W.M.length → frF W2.M W.M.length 3 m = some (.ref m) := fun m hm => by unfold frF; rw [if_pos hm]
    have lenβ : W.β.length ≤ W.M.length := Nat.le_of_eq k.len
    have q3 : frO (frF W2.M W.M.length 3) o2 = some o' := by
      rcases q2 with ⟨rfl, ok0⟩ | q2
      · have ok0 := ok0 a hn'
        cases o' with
        | lst ds => obtain ⟨xs, _, r⟩ := ok0; rw [frO, substL_low low lenβ r]; rfl
        | dct t ds =>
          cases t
          · obtain ⟨xs, _, r⟩ := ok0; rw [frO, substK_low low lenβ r]; rfl
          · obtain ⟨xs, kvs, _, _, r⟩ := ok0; rw [frO, substT_low low lenβ r]; rfl
        | ins C fs =>
          obtain ⟨dx, gs, _, _, r⟩ := ok0
          rw [frO, substL_low low lenβ r]
          exact congrArg (fun z => some (O.ins C z)) (zip_self fs)
        | dead => rfl
      · exact q2
    cases o2 with
    | lst ds =>
      rw [frO] at q3
      cases e : substL (frF W2.M W.M.length 3) ds with
      | none => rw [e] at q3; cases q3
      | some ds' =>
        rw [e] at q3; cases q3
        obtain ⟨xs, h1, h2⟩ := ok2
        exact ⟨xs, h1, rpa_subst ov h2 e⟩
    | dct t ds =>
      rw [frO] at q3
      cases e : substK (frF W2.M W.M.length 3) ds with
      | none => rw [e] at q3; cases q3
      | some ds' =>
        rw [e] at q3; cases q3
        cases t
        · obtain ⟨xs, h1, h2⟩ := ok2
          exact ⟨xs, h1, rpk_subst ov h2 e⟩
        · obtain ⟨xs, kvs, h1, h2, h3⟩ := ok2
          exact ⟨xs, kvs, h1, h2, rpt_subst ov h3 e⟩
    | ins C fs =>
      rw [frO] at q3
      cases e : substL (frF W2.M W.M.length 3) (fs.map (·.2)) with
      | none => rw [e] at q3; cases q3
      | some l' =>
        rw [e] at q3; cases q3
        obtain ⟨dx, gs, h1, h2, h3⟩ := ok2
        have r := rpa_subst ov h3 e
        have hl := r.length
        have hl2 : fs.length = l'.length := by
          have := congrArg List.length h2
          simp at this hl
          omega
        refine ⟨dx, gs, h1, ?_, ?_⟩
        · rw [h2, List.map_fst_zip (by simp [hl2])]
        · rw [List.map_snd_zip (by simp [hl2])]; exact r
    | dead => cases q3; exact ok2
end

structure TP where
  P : Program
  w : World
  F : PySem.W.Frag
  mg : Str → Option Value
  base : Heap
  cs : List (Addr × Addr)
abbrev TP.K (T : TP) : KP := ⟨T.P, T.w, T.F, T.cs.map (·.2)⟩
abbrev TP.sc (T : TP) (N : List Str) (sc : Scope) (k : Nat) (Wx : WX) (code : Value) : SC := { P := T.P, w := T.w, F := T.F, mg := T.mg, base := T.base, N := N, sc := sc, k := k, W := Wx, df := true, fnc := fun _ => true, cs := T.cs, code := some code }
def PostC (T : TP) (W : Wd) (r : Rs D) (Q : VK) (E : XK) : Prop := match r with
  | none => False
  | some (.ok d, M') => ∀ W', Le T.K W W' → Ok T.K W' → W'.M = M' → ∀ v, Rp T.K W' v d → Q v W'.H
  | some (.error x, M') => ∀ W', Le T.K W W' → Ok T.K W' → W'.M = M' → ∀ C, T.mg x = some (.ref C) → E (.ref C) none W'.H
/-- the promise of a def that computes F -/
def SpF (T : TP) (n : Nat) (F : List D → Mo D) : Sp := fun vs H Q E => vs.length = n ∧ ∃ (W : Wd) (ds : List D), Ok T.K W ∧ W.H = H ∧ RpA T.K W vs ds ∧ PostC T W (F ds W.M) Q E
def FnD (T : TP) (k : Nat) (f : Addr) (fd : FuncData) (ps : List Str) (F : List D → Mo D) : Prop := FnOk T.P T.w T.F T.mg T.base (L2N.CX T.P T.w) k f fd ps (SpF T ps.length F)
def startE (N : List Str) (ds : List D) : En := ds.map some ++ List.replicate (N.length - ds.length) none
/-- what a body computes, as a def: what it made is closed -/
noncomputable def fnD (N : List Str) (g : Sn) : List D → Mo D := fun ds M => fnR M (g (startE N ds) M)
/-- .. stays open -/
def fnO (N : List Str) (g : Sn) : List D → Mo D := fun ds M => fnW (g (startE N ds) M)
theorem start_rel {K : KP} {W : Wd} {N : List Str} {vs : List V} {ds : List D} (r : RpA K W vs ds) : StR K W (L2.start N vs) (startE N ds) := by
  have hl := r.length
  refine ⟨by simp [L2.start, startE, hl], fun i d h => ?_⟩
  unfold startE at h
  unfold L2.start
  by_cases hi : i < ds.length
  · rw [List.getElem?_append_left (by simpa using hi)] at h
    rw [List.getElem?_append_left (by simpa [hl] using hi)]
    rw [List.getElem?_map] at h ⊢
    cases e : ds[i]? with
    | none => rw [e] at h; cases h
    | some x =>
      rw [e] at h; cases h
      obtain ⟨v, h1, h2⟩ := r.get e
      exact ⟨v, by rw [h1]; rfl, h2⟩
  · rw [List.getElem?_append_right (by simpa using hi), List.getElem?_replicate] at h
    split at h <;> cases h
theorem inC_def {T : TP} {N : List Str} {qual : Str} {scope : Scope} {f : Addr} {cdv : Value} {A : Around} {outer : List PySem.Env} {s : Shared} {H : Hp} {E : XK} {k : Nat} (hr : Room k (A.deeper (envOfC qual scope s.heap.objs.size f cdv))) :
    InC (T.sc N scope k (fun cls d _ H => E cls d H) cdv) (cxOf (L2N.CX T.P T.w) T.P T.w T.F T.mg T.base N qual scope f cdv A outer s H E) where
  P := rfl
  w := rfl
  K := rfl
  mg := rfl
  base := rfl
  N := rfl
  sc := rfl
  calm := rfl
  room := hr
  takes := L2N.takes_of rfl rfl rfl rfl
  own := fun _ => passes_of rfl
  stk := fun _ => ⟨rfl, rfl⟩
  fn := fun _ _ => rfl
  code := fun v e => Option.some.inj e
section
variable {T : TP} {x qual : Str} {prm : Arguments} {body : List Stmt} {scope : Scope} {dvs : List V} {kws : List (Str × V)} {f : Addr} {fd : FuncData} {N ps : List Str} {k : Nat} {g : Sn}
theorem okXc {P : Program} {w : World} {K : PySem.W.Frag} {mg : Str → Option Value} {base : Heap} {sp : Sp} (F : FunD K x qual prm body scope dvs kws f fd) (S : FnScope N ps scope) (len : ∀ vs H Q E, sp vs H Q E → vs.length = ps.length)
    (hbody : ∀ (cdv : Value), fd.code = cdv → ∀ (A : Around) (outer : List PySem.Env) (s : Shared) (H : Hp) (vs : List V) (Q : VK) (E : XK), Room k (A.deeper (envOfC qual scope s.heap.objs.size f cdv)) → sp vs H Q E →
      ∃ t, PSs (cxOf (L2N.CX P w) P w K mg base N qual scope f cdv A outer s H E) body t ∧ t { nx := fun _ H' => Q .non H', rt := Q } (L2.start N vs) H) : FnOk P w K mg base (L2N.CX P w) (k + 1) f fd ps sp := by
  obtain ⟨oc, od, dV, kV, doc, pm, an, cdv, ct, osl, rfl, lk, hcd, _, _⟩ := F.ex
  exact fn_of lk hcd S len fun A outer s H vs Q E hr hsp => hbody cdv rfl A outer s H vs Q E hr hsp
theorem fnd_of (F : FunD T.F x qual prm body scope dvs kws f fd) (Sc : FnScope N ps scope) (hb : ∀ Wx : WX, BX (T.sc N scope k Wx fd.code) body g) : FnD T (k + 1) f fd ps (fnD N g) := by
  refine okXc F Sc (fun vs H Q E h => h.1) fun cdv hcd A outer s H vs Q E hr hsp => ?_
  subst hcd
  obtain ⟨hl, W, ds, ok, rfl, r, post⟩ := hsp
  obtain ⟨t, t1, t2⟩ := (hb fun cls d _ H => E cls d H).ex
  refine ⟨t, t1 _ (inC_def hr), t2 W _ (startE N ds) _ ok (start_rel r) ?_⟩
  have post : PostC T W (fnR W.M (g (startE N ds) W.M)) Q E := post
  have fin_run : ∀ {M : Mem} {d : D} {W2 : Wd}, PostC T W (fin W.M M d) Q E → Le T.K W W2 → Ok T.K W2 → W2.M = M → ∀ v, Rp T.K W2 v d → Q v W2.H := by
    intro M d W2 hp l k2 hM v rv
    subst hM
    unfold fin at hp
    cases e1 : subst (frF W2.M W.M.length 3) d with
    | none => rw [e1] at hp; exact hp.elim
    | some d' =>
      cases e2 : finM W.M W2.M with
      | none => rw [e1, e2] at hp; exact hp.elim
      | some M' =>
        rw [e1, e2] at hp
        obtain ⟨W3, rfl, h3, l3, k3, ov⟩ := finM_run ok k2 l e2
        have z := hp W3 l3 k3 rfl v (rp_subst (ov 3) rv e1)
        rw [h3] at z
        exact z
  cases e : g (startE N ds) W.M with
  | none => rw [e] at post; exact post.elim
  | some p =>
    obtain ⟨fl, M⟩ := p
    rw [e] at post
    cases fl with
    | nx ρ => exact fun W2 l k2 hM σ st => fin_run (d := .non) post l k2 hM _ .non
    | ret d => exact fun W2 l k2 hM v rv => fin_run post l k2 hM v rv
    | brk ρ => exact post.elim
    | cnt ρ => exact post.elim
    | exc y ρ =>
      intro W2 l k2 hM σ st C hC
      subst hM
      have post : PostC T W ((finM W.M W2.M).map fun M' => (.error y, M')) Q E := post
      cases e2 : finM W.M W2.M with
      | none => rw [e2] at post; exact post.elim
      | some M' =>
        rw [e2] at post
        obtain ⟨W3, rfl, h3, l3, k3, ov⟩ := finM_run ok k2 l e2
        have z := post W3 l3 k3 rfl C hC
        rw [h3] at z
        exact z
theorem fno_of (F : FunD T.F x qual prm body scope dvs kws f fd) (Sc : FnScope N ps scope) (hb : ∀ Wx : WX, BX (T.sc N scope k Wx fd.code) body g) : FnD T (k + 1) f fd ps (fnO N g) := by
  refine okXc F Sc (fun vs H Q E h => h.1) fun cdv hcd A outer s H vs Q E hr hsp => ?_
  subst hcd
  obtain ⟨hl, W, ds, ok, rfl, r, post⟩ := hsp
  obtain ⟨t, t1, t2⟩ := (hb fun cls d _ H => E cls d H).ex
  refine ⟨t, t1 _ (inC_def hr), t2 W _ (startE N ds) _ ok (start_rel r) ?_⟩
  have post : PostC T W (fnW (g (startE N ds) W.M)) Q E := post
  cases e : g (startE N ds) W.M with
  | none => rw [e] at post; exact post.elim
  | some p =>
    obtain ⟨fl, M⟩ := p
    rw [e] at post
    cases fl with
    | nx ρ => exact fun W2 l k2 hM σ st => post W2 l k2 hM _ .non
    | ret d => exact fun W2 l k2 hM v rv => post W2 l k2 hM v rv
    | brk ρ => exact post.elim
    | cnt ρ => exact post.elim
    | exc y ρ => exact fun W2 l k2 hM σ st C hC => post W2 l k2 hM C hC
/-- another function that is the same wherever it comes to something -/
theorem FnD.mono {j : Nat} {F : List D → Mo D} (h : FnD T k f fd ps F) (hk : k ≤ j) : FnD T j f fd ps F := FnOk.mono h hk
theorem FnD.imp {F G : List D → Mo D} (h : FnD T k f fd ps F) (hi : ∀ ds M r, G ds M = some r → ds.length = ps.length → F ds M = some r) : FnD T k f fd ps G := by
  refine FnOk.imp h fun vs H Q E hsp => ?_
  obtain ⟨hl, W, ds, ok, hH, r, post⟩ := hsp
  refine ⟨hl, W, ds, ok, hH, r, ?_⟩
  cases e : G ds W.M with
  | none => rw [e] at post; exact post.elim
  | some p => rw [hi ds W.M p e (by rw [← r.length, hl]), ← e]; exact post
end
section
variable {S : SC}
theorem InC.fnOk {X : Cx} (c : InC S X) {k : Nat} {f : Addr} {fd : FuncData} {ps : List Str} {sp : Sp} (F : FnOk S.P S.w S.F S.mg S.base (L2N.CX S.P S.w) k f fd ps sp) : FnOk X.prog X.w X.K X.mg X.base (L2N.CX X.prog X.w) k f fd ps sp := by
  rw [c.P, c.w, c.K, c.mg, c.base]; exact F
abbrev SC.tp (S : SC) : TP := ⟨S.P, S.w, S.F, S.mg, S.base, S.cs⟩
theorem sem_call {t : TA} {fa : En → Mo (List D)} {F : List D → Mo D} {n : Nat} (ha : SemA S t fa) (hlen : ∀ ρ M ds M', fa ρ M = some (.ok ds, M') → ds.length = n) : SemE S (tCallSD (SpF S.tp n F) [] (WE S.W) t) (fun ρ => .bnd (fa ρ) F) := by
  intro W σ ρ Q k st h
  refine ha W σ ρ _ k st ?_
  have h0 := Post.bnd h
  cases e : fa ρ W.M with
  | none => rw [e] at h0; exact h0
  | some p =>
    obtain ⟨r, M1⟩ := p
    rw [e] at h0
    cases r with
    | error x => exact h0
    | ok ds =>
      intro W1 l1 k1 hM vs rvs
      subst hM
      have q : Post S W1 σ (F ds W1.M) (PV S Q) := h0 W1 l1 k1 rfl
      refine ⟨by rw [List.append_nil, rvs.length]; exact hlen _ _ _ _ e, W1, ds, k1, rfl, by rw [List.append_nil]; exact rvs, ?_⟩
      cases e2 : F ds W1.M with
      | none => rw [e2] at q; exact q
      | some p2 =>
        obtain ⟨r2, M2⟩ := p2
        rw [e2] at q
        cases r2 with
        | ok d => exact q
        | error x => exact q
theorem ex_call {x : Str} {p pos : Pos} {e : Expr} {es : List Expr} {k : Nat} {f : Addr} {fd : FuncData} {ps : List Str} {F : List D → Mo D} {fa : En → Mo (List D)} (hF : FnD S.tp k f fd ps F) (hk : k ≤ S.k) (hg : Gs S x) (hm : S.mg x = some (.ref f)) (hkp : PySem.W.keepIn S.F (.ref f) = true) (hb : Binds S.F fd ps [])
    (ha : AX S (e :: es) fa) (hlen : ∀ ρ M ds M', fa ρ M = some (.ok ds, M') → ds.length = ps.length) (hdb : (x == ("__debug__" : Str)) = false := by decide) (he : ∀ env : PySem.Env, starEach (e :: es) env = (false, eval e env) :: starEach es env := by intro; rfl) (hpl : ∀ env : PySem.Env, (backTo pos (starEach es env)).any (·.1) = false := by intro; rfl) :
    EX S (.Call (.Name x p) (e :: es) [] pos) (fun ρ => .bnd (fa ρ) F) := by
  obtain ⟨ta, a1, a2⟩ := ha.ex
  refine ⟨_, fun X c => pe_callSD (c.fnOk hF) (c.room.mono hk) (gl_of c hg) (by rw [c.mg]; exact hm) (by rw [c.K]; exact hkp) (by rw [c.K]; exact hb) .nil (fun σ => L2N.passAt c.takes σ) (a1 X c) hdb (he X.env) (hpl X.env), sem_call a2 hlen⟩
end
theorem len_nil {ρ : En} {M M' : Mem} {ds : List D} (h : (Mo.ret ([] : List D)) M = some (.ok ds, M')) : ds.length = 0 := by cases h; rfl
theorem len_cons {f : Mo D} {g : Mo (List D)} {n : Nat} (hg : ∀ M ds M', g M = some (.ok ds, M') → ds.length = n) : ∀ M ds M', (Mo.bnd f fun d => .bnd g fun ds => .ret (d :: ds)) M = some (.ok ds, M') → ds.length = n + 1 := by
  intro M ds M' h
  unfold Mo.bnd at h
  cases e : f M with
  | none => rw [e] at h; cases h
  | some p =>
    obtain ⟨r, M1⟩ := p
    rw [e] at h
    cases r with
    | error x => cases h
    | ok d =>
      simp only at h
      cases e2 : g M1 with
      | none => rw [e2] at h; cases h
      | some p2 =>
        obtain ⟨r2, M2⟩ := p2
        rw [e2] at h
        cases r2 with
        | error x => cases h
        | ok ds2 => cases h; simp [hg _ _ _ e2]
end DL
namespace DL
open PySem PySem.Spec PyProof.Rows L2

/-- what a reference to a changing list or dict holds -/
def res (M : Mem) : D → D
  | .ref n => match M[n]? with
    | some (.lst l) => .lst l
    | some (.dct t l) => .dct t l
    | _ => .ref n
  | d => d
mutual
def py : D → Option PyData
  | .non => some .none
  | .bl b => some (.bool b)
  | .int i => some (.int i)
  | .str x => some (.str x)
  | .tup l => (pyL l).map .tuple
  | .lst l => (pyL l).map .list
  | _ => none
def pyL : List D → Option (List PyData)
  | [] => some []
  | d :: r => match py d, pyL r with
    | some x, some xs => some (x :: xs)
    | _, _ => none
end
section
variable {K : KP} {W : Wd}
mutual
theorem rp_dp : ∀ {v : V} {d : D} {p : PyData}, Rp K W v d → py d = some p → Dp K.K W.H v p
  | _, _, _, .non, h => by cases h; exact .non
  | _, _, _, .bl b, h => by cases h; exact .bl b
  | _, _, _, .int i, h => by cases h; exact .int i
  | _, _, _, .str x, h => by cases h; exact .str x
  | _, _, _, .tup (ds := ds) h1 r, h => by
    rw [py] at h
    cases e : pyL ds with
    | none => rw [e] at h; cases h
    | some ps => rw [e] at h; cases h; exact .tup h1 (rpa_dp r e)
  | _, _, _, .lst (ds := ds) h1 f1 r, h => by
    rw [py] at h
    cases e : pyL ds with
    | none => rw [e] at h; cases h
    | some ps => rw [e] at h; cases h; exact .lst (.inl h1) (rpa_dp r e)
  | _, _, _, .lstK (ds := ds) h1 r, h => by
    rw [py] at h
    cases e : pyL ds with
    | none => rw [e] at h; cases h
    | some ps => rw [e] at h; cases h; exact .lst (.inr h1) (rpa_dp r e)
  | _, _, _, .dK _ _ _, h => by simp [py] at h
  | _, _, _, .dT _ _ _ _, h => by simp [py] at h
  | _, _, _, .ref _, h => by simp [py] at h
  | _, _, _, .obj _, h => by simp [py] at h
  | _, _, _, .ty _, h => by simp [py] at h
  | _, _, _, .set _, h => by simp [py] at h
  | _, _, _, .seti _, h => by simp [py] at h
theorem rpa_dp : ∀ {v : List V} {d : List D} {p : List PyData}, RpA K W v d → pyL d = some p → DpAll K.K W.H v p
  | _, _, _, .nil, h => by cases h; exact .nil
  | _, _, _, .cons (d := d) (ds := ds) h1 h2, h => by
    rw [pyL] at h
    cases e : py d with
    | none => rw [e] at h; cases h
    | some d1 =>
      cases e2 : pyL ds with
      | none => rw [e, e2] at h; cases h
      | some ds1 => rw [e, e2] at h; cases h; exact .cons (rp_dp h1 e) (rpa_dp h2 e2)
end
theorem res_dp (k : Ok K W) {v : V} {d : D} {p : PyData} (r : Rp K W v d) (h : py (res W.M d) = some p) : Dp K.K W.H v p := by
  cases d with
  | ref n =>
    cases r with
    | ref hb =>
      obtain ⟨o, ho, ok⟩ := k.at hb
      simp only [res, ho] at h
      cases o with
      | lst l =>
        obtain ⟨xs, h1, h2⟩ := ok
        rw [py] at h
        cases e : pyL l with
        | none => rw [e] at h; cases h
        | some ps => rw [e] at h; cases h; exact .lst (.inl (.inl h1)) (rpa_dp h2 e)
      | dct t l => simp [py] at h
      | ins C fs => simp [py] at h
      | dead => simp [py] at h
  | _ => exact rp_dp r h
/-- a list, frozen or changing -/
theorem rd_lst (k : Ok K W) {v : V} {d : D} {l : List D} (r : Rp K W v d) (h : res W.M d = .lst l) : ∃ a xs, v = .ref a ∧ SqL K.K W.H a xs ∧ RpA K W xs l := by
  cases d with
  | ref n =>
    cases r with
    | ref hb =>
      obtain ⟨o, ho, ok⟩ := k.at hb
      simp only [res, ho] at h
      cases o with
      | lst l' =>
        cases h
        obtain ⟨xs, h1, h2⟩ := ok
        exact ⟨_, xs, rfl, .inl (.inl h1), h2⟩
      | dct t l => cases h
      | ins C fs => cases h
      | dead => cases h
  | lst l' =>
    cases h
    cases r with
    | lst h1 f r => exact ⟨_, _, rfl, .inl h1, r⟩
    | lstK h1 r => exact ⟨_, _, rfl, .inr h1, r⟩
  | _ => cases h
end
def rCatR (K : PySem.W.Frag) : R2 := fun x y H Q => ∃ l b xs zs, x = .ref l ∧ y = .ref b ∧ SqL K H l xs ∧ SqL K H b zs ∧ xs.length + zs.length ≤ sizeLine ∧ ∀ p, H p = none → Q (.ref p) (upd H p (.lst (xs ++ zs)))
theorem add_plain {prog : Program} {w : World} {A : Around} {E : Value → Shared → Prop} {s : Shared} {l b : Addr} {vs ws : Array Value} {Q : Value → Shared → Prop} (hl : PlainL s.heap l vs) (hb : PlainL s.heap b ws) (hsz : vs.size + ws.size ≤ sizeLine)
    (h : Q (.ref s.heap.objs.size) { s with heap := s.heap.push { cls := .type "list", data := .seq (vs ++ ws) } }) : wpAny (model prog w) A (binaryOp .Add (.ref l) (.ref b)) Q E s := by
  obtain ⟨⟨cls, dd, data, sl⟩, n, ho, hc, hx, hd⟩ := hl
  obtain ⟨⟨cls2, dd2, data2, sl2⟩, n2, ho2, hc2, hx2, hd2⟩ := hb
  simp only at hc hd hc2 hd2 hx hx2
  subst hc hd hc2 hd2 hx hx2
  exact concat_meets ⟨_, ho, rfl⟩ ⟨_, ho2, rfl⟩ noFill_list_add seq_list_add PySem.F.slot_list_add PySem.F.entry_list_add (PySem.F.args_list_add_2 _ _) (list_addW l b vs ws n n2 none none sl sl2 hsz) ⟨ho, ho2, h⟩
theorem op_catR {X : Cx} : OpR X (binaryOp .Add) (rCatR X.K) := by
  intro pins s σ H x y v u Q I rx ry h
  obtain ⟨l, b, xs, zs, rfl, rfl, hH, hB, hz, q⟩ := h
  cases rx
  cases ry
  obtain ⟨its, r, e, z⟩ := I.list hH
  obtain ⟨its2, r2, e2, z2⟩ := I.list hB
  have hl := r.length
  have hl2 := r2.length
  refine add_plain e e2 (by rw [List.size_toArray, List.size_toArray]; omega) ?_
  rw [show its.toArray ++ its2.toArray = (its ++ its2).toArray by simp]
  exact ⟨.ref _, _, I.lnew (t' := s.toks) (r.append r2) (by rw [List.length_append]; omega), rfl, q _ I.fresh⟩
def addD (a b : D) : Mo D := fun M => match res M a, res M b with
  | .int i, .int j => some (.ok (.int (i + j)), M)
  | .str i, .str j => cond (lenOk (i.length + j.length)) (some (.ok (.str (i ++ j)), M)) none
  | .tup xs, .tup ys => cond (lenOk (xs.length + ys.length)) (some (.ok (.tup (xs ++ ys)), M)) none
  | .lst xs, .lst ys => cond (lenOk (xs.length + ys.length)) (some (.ok (.lst (xs ++ ys)), M)) none
  | _, _ => none
section
variable {S : SC} {W : Wd} {σ : L2.St}
theorem post_ok {α : Type} {a : α} {Q : α → Wd → Prop} (k : Ok S.K W) (h : Post S W σ (some (.ok a, W.M)) Q) : Q a W := h W (Le.refl _ _) k rfl
theorem post_condO {α : Type} {b : Bool} {r : Rs α} {Q : α → Wd → Prop} (h : Post S W σ (cond b r none) Q) : b = true ∧ Post S W σ r Q := by
  cases b with
  | true => exact ⟨rfl, h⟩
  | false => exact h.elim
theorem res_int {K : KP} {v : V} {d : D} {M : Mem} {i : Int} (r : Rp K W v d) (h : res M d = .int i) : v = .int i := by
  cases d with
  | ref n => simp only [res] at h; split at h <;> cases h
  | int j => cases h; exact rp_int r
  | _ => cases h
theorem res_str {K : KP} {v : V} {d : D} {M : Mem} {i : Str} (r : Rp K W v d) (h : res M d = .str i) : v = .str i := by
  cases d with
  | ref n => simp only [res] at h; split at h <;> cases h
  | str j => cases h; exact rp_str r
  | _ => cases h
theorem res_tup {K : KP} {v : V} {d : D} {M : Mem} {l : List D} (r : Rp K W v d) (h : res M d = .tup l) : ∃ a xs, v = .ref a ∧ SqT K.K W.H a xs ∧ RpA K W xs l := by
  cases d with
  | ref n => simp only [res] at h; split at h <;> cases h
  | tup l => cases h; cases r with | tup h1 r => exact ⟨_, _, rfl, h1, r⟩
  | _ => cases h

def rAddA (K : PySem.W.Frag) : R2 := fun x y H Q => rI0 (fun i j => .int (i + j)) x y H Q ∨ (∃ i j, x = .str i ∧ y = .str j ∧ i.length + j.length ≤ sizeLine ∧ Q (.str (i ++ j)) H) ∨ rCatA K x y H Q ∨ rCatR K x y H Q
theorem ox_add : OX S (binaryOp .Add) addD := by
  refine ⟨⟨rAddA S.F, fun X c => by have z := (op_add (X := X)).or (op_add_str.or ((op_catA (X := X)).or op_catR)); rw [c.K] at z; exact z, fun W σ x y a b Q k rx ry h => ?_⟩⟩
  unfold addD at h
  split at h
  · rename_i i j e1 e2
    exact .inl ⟨i, j, res_int rx e1, res_int ry e2, post_ok k h _ (.int _)⟩
  · rename_i i j e1 e2
    obtain ⟨h1, h2⟩ := post_condO h
    exact .inr (.inl ⟨i, j, res_str rx e1, res_str ry e2, of_decide_eq_true h1, post_ok k h2 _ (.str _)⟩)
  · rename_i l m e1 e2
    obtain ⟨a1, xs, rfl, s1, r1⟩ := res_tup rx e1
    obtain ⟨a2, ys, rfl, s2, r2⟩ := res_tup ry e2
    obtain ⟨h1, h2⟩ := post_condO h
    refine .inr (.inr (.inl ⟨a1, a2, xs, ys, rfl, rfl, s1, s2, by rw [r1.length, r2.length]; exact of_decide_eq_true h1, fun e => ?_, fun _ e => ?_, fun e1 e2 p hp => ?_⟩))
    · subst e; cases r1
      exact post_ok k h2 _ (.tup s2 (by simpa using r2))
    · subst e; cases r2
      exact post_ok k h2 _ (.tup s1 (by simpa using r1))
    · exact h2 (W.lay p (.tup (xs ++ ys))) (le_lay k hp) (k.lay hp) rfl _ (.tup (.inl (.inl upd_same)) ((r1.append r2).mono (le_lay k hp)))
  · rename_i l m e1 e2
    obtain ⟨a1, xs, rfl, s1, r1⟩ := rd_lst k rx e1
    obtain ⟨a2, ys, rfl, s2, r2⟩ := rd_lst k ry e2
    obtain ⟨h1, h2⟩ := post_condO h
    refine .inr (.inr (.inr ⟨a1, a2, xs, ys, rfl, rfl, s1, s2, by rw [r1.length, r2.length]; exact of_decide_eq_true h1, fun p hp => ?_⟩))
    exact h2 (W.lay p (.lst (xs ++ ys))) (le_lay k hp) (k.lay hp) rfl _ (.lst (.inl upd_same) (k.frz_new hp) ((r1.append r2).mono (le_lay k hp)))
  · exact h.elim
def intOp (c : Int → Int → Bool) (g : Int → Int → D) (a b : D) : Mo D := match a, b with
  | .int i, .int j => cond (c i j) (.ret (g i j)) .stuck
  | _, _ => .stuck
theorem intOp_run {c : Int → Int → Bool} {g : Int → Int → D} {x y : V} {a b : D} {Q : VK} (k : Ok S.K W) (rx : Rp S.K W x a) (ry : Rp S.K W y b) (h : Post S W σ (intOp c g a b W.M) (PV S Q)) :
    ∃ i j, x = .int i ∧ y = .int j ∧ c i j = true ∧ PV S Q (g i j) W := by
  unfold intOp at h
  split at h
  · rename_i i j
    obtain ⟨h1, h2⟩ := post_cond h
    exact ⟨i, j, rp_int rx, rp_int ry, h1, Post.ret k h2⟩
  · exact (show False from h).elim
def subD (a b : D) : Mo D := intOp (fun _ _ => true) (fun i j => .int (i - j)) a b
theorem ox_sub : OX S (binaryOp .Sub) subD := ⟨⟨_, fun X c => op_sub, fun W σ x y a b Q k rx ry h => by
  obtain ⟨i, j, h1, h2, _, q⟩ := intOp_run k rx ry h
  exact ⟨i, j, h1, h2, q _ (.int _)⟩⟩⟩
def mulOk (i j : Int) : Bool := decide (-(2 ^ 64) < i ∧ i < 2 ^ 64) || decide (-(2 ^ 64) < j ∧ j < 2 ^ 64) || decide (i.natAbs.log2 + j.natAbs.log2 < 1000000)
/-- a product; of a tuple and an int, a list and an int -/
def mulD (a b : D) : Mo D := match a, b with
  | .int i, .int j => cond (mulOk i j) (.ret (.int (i * j))) .stuck
  | _, _ => .stuck
theorem ox_mul : OX S (binaryOp .Mult) mulD := by
  refine ⟨⟨_, fun X c => (op_mul (X := X)).or op_mulW, fun W σ x y a b Q k rx ry h => ?_⟩⟩
  unfold mulD at h
  split at h
  · rename_i i j
    obtain ⟨h1, h2⟩ := post_cond h
    have q := Post.ret k h2 _ (.int _)
    unfold mulOk at h1
    simp only [Bool.or_eq_true, decide_eq_true_eq] at h1
    rcases h1 with (h1 | h1) | h1
    · exact .inl ⟨i, j, rp_int rx, rp_int ry, .inl h1, q⟩
    · exact .inl ⟨i, j, rp_int rx, rp_int ry, .inr h1, q⟩
    · exact .inr ⟨i, j, rp_int rx, rp_int ry, h1, q⟩
  · exact (show False from h).elim
def fdivOk (j : Int) : Bool := decide (j ≠ 0 ∧ j.natAbs < 1073741824) || decide (0 < j ∧ j.natAbs.log2 < 9000)
def fdivD (a b : D) : Mo D := intOp (fun _ j => fdivOk j) (fun i j => .int (i.fdiv j)) a b
theorem ox_fdiv : OX S (binaryOp .FloorDiv) fdivD := by
  refine ⟨⟨_, fun X c => (op_fdivN (X := X)).or op_fdivW, fun W σ x y a b Q k rx ry h => ?_⟩⟩
  obtain ⟨i, j, e1, e2, h1, q⟩ := intOp_run k rx ry h
  have q := q _ (.int _)
  unfold fdivOk at h1
  simp only [Bool.or_eq_true, decide_eq_true_eq] at h1
  rcases h1 with h1 | h1
  · exact .inl ⟨i, j, e1, e2, h1, q⟩
  · refine .inr ⟨i, j, e1, e2, h1, ?_⟩
    rw [Int.fdiv_eq_ediv_of_nonneg i (by omega)] at q
    exact q
def modD (a b : D) : Mo D := intOp (fun _ j => decide (j ≠ 0)) (fun i j => .int (i.fmod j)) a b
theorem ox_mod : OX S (binaryOp .Mod) modD := ⟨⟨_, fun X c => op_modN, fun W σ x y a b Q k rx ry h => by
  obtain ⟨i, j, h1, h2, c, q⟩ := intOp_run k rx ry h
  exact ⟨i, j, h1, h2, of_decide_eq_true c, q _ (.int _)⟩⟩⟩
def powD (a b : D) : Mo D := intOp (fun i j => decide (0 ≤ j ∧ j ≤ 1000000 ∧ i.natAbs < 2 ^ 64)) (fun i j => .int (i ^ j.toNat)) a b
theorem ox_pow : OX S (binaryOp .Pow) powD := ⟨⟨_, fun X c => op_pow, fun W σ x y a b Q k rx ry h => by
  obtain ⟨i, j, h1, h2, c, q⟩ := intOp_run k rx ry h
  exact ⟨i, j, h1, h2, (of_decide_eq_true c : 0 ≤ j ∧ j ≤ 1000000 ∧ i.natAbs < 2 ^ 64), q _ (.int _)⟩⟩⟩
def negD (a : D) : Mo D := match a with
  | .int i => .ret (.int (-i))
  | _ => .stuck
theorem ux_neg : UX S (unaryOp .USub) negD := by
  refine ⟨⟨_, fun X c => un_neg, fun W σ x a Q k rx h => ?_⟩⟩
  unfold negD at h
  split at h
  · rename_i i
    exact ⟨i, rp_int rx, Post.ret k h _ (.int _)⟩
  · exact (show False from h).elim
theorem ip_addX : IpX S .Add (intOp (fun _ _ => true) fun i j => .int (i + j)) := ⟨⟨_, fun X c => ip_add, fun W σ x y a b Q k rx ry h => by
  obtain ⟨i, j, h1, h2, _, q⟩ := intOp_run k rx ry h
  exact ⟨i, j, h1, h2, q _ (.int _)⟩⟩⟩
theorem ip_subX : IpX S .Sub (intOp (fun _ _ => true) fun i j => .int (i - j)) := ⟨⟨_, fun X c => ip_sub, fun W σ x y a b Q k rx ry h => by
  obtain ⟨i, j, h1, h2, _, q⟩ := intOp_run k rx ry h
  exact ⟨i, j, h1, h2, q _ (.int _)⟩⟩⟩

def eqB (M : Mem) (a b : D) : Option Bool := match py (res M a), py (res M b) with
  | some x, some y => if SeqAt.shaped x = true ∧ SeqAt.shaped y = true then some (PyData.eqv x y) else none
  | _, _ => none
def eqD (a b : D) : Mo D := fun M => match eqB M a b with
  | some c => some (.ok (.bl c), M)
  | none => none
def neD (a b : D) : Mo D := fun M => match eqB M a b with
  | some c => some (.ok (.bl (!c)), M)
  | none => none
theorem eqB_run {K : KP} {x y : V} {a b : D} {c : Bool} (k : Ok K W) (rx : Rp K W x a) (ry : Rp K W y b) (h : eqB W.M a b = some c) :
    ∃ d e, Dp K.K W.H x d ∧ Dp K.K W.H y e ∧ SeqAt.shaped d = true ∧ SeqAt.shaped e = true ∧ PyData.eqv d e = c := by
  unfold eqB at h
  split at h
  · rename_i d e e1 e2
    split at h
    · rename_i hs
      cases h
      exact ⟨d, e, res_dp k rx e1, res_dp k ry e2, hs.1, hs.2, rfl⟩
    · cases h
  · cases h
theorem hu_of' {X : Cx} (c : InC S X) : X.A.units + 65 < cLine := by have z := c.room.un; omega
theorem ox_eq : OX S (compareOp .Eq) eqD := by
  refine ⟨⟨rEqD S.F, fun X c => by have z := op_eqD (X := X) (by have z := hu_of' c; omega); rw [c.K] at z; exact z, fun W σ x y a b Q k rx ry h => ?_⟩⟩
  unfold eqD at h
  cases e : eqB W.M a b with
  | none => rw [e] at h; exact h.elim
  | some c =>
    rw [e] at h
    obtain ⟨d, e, h1, h2, h3, h4, h5⟩ := eqB_run k rx ry e
    exact ⟨d, e, h1, h2, h3, h4, by rw [h5]; exact post_ok k h _ (.bl c)⟩
theorem ox_ne : OX S (compareOp .NotEq) neD := by
  refine ⟨⟨rNeD S.F, fun X c => by have z := op_neD (X := X) (by have z := hu_of' c; omega); rw [c.K] at z; exact z, fun W σ x y a b Q k rx ry h => ?_⟩⟩
  unfold neD at h
  cases e : eqB W.M a b with
  | none => rw [e] at h; exact h.elim
  | some c =>
    rw [e] at h
    obtain ⟨d, e, h1, h2, h3, h4, h5⟩ := eqB_run k rx ry e
    exact ⟨d, e, h1, h2, h3, h4, by rw [h5]; exact post_ok k h _ (.bl (!c))⟩
/-- is: with None, of two bools -/
def isD (a b : D) : Mo D := match a, b with
  | .bl x, .bl y => .ret (.bl (decide (x = y)))
  | .non, .non => .ret (.bl true)
  | .bl _, .non | .int _, .non | .str _, .non | .tup _, .non | .lst _, .non | .dct _ _, .non | .ref _, .non | .obj _, .non | .ty _, .non => .ret (.bl false)
  | _, _ => .stuck
def isnD (a b : D) : Mo D := .bnd (.bnd (isD a b) boolD) fun c => .ret (.bl (!c))
theorem isD_run {x y : V} {a b : D} {Q : D → Wd → Prop} (k : Ok S.K W) (rx : Rp S.K W x a) (ry : Rp S.K W y b) (h : Post S W σ (isD a b W.M) Q) :
    (∃ p q, x = .bl p ∧ y = .bl q ∧ Q (.bl (decide (p = q))) W) ∨ (y = .non ∧ Q (.bl (decide (x = .non))) W) := by
  unfold isD at h
  split at h
  · rename_i p q
    exact .inl ⟨p, q, rp_bl rx, rp_bl ry, Post.ret k h⟩
  all_goals first
    | (rw [rp_non ry]
       refine .inr ⟨rfl, ?_⟩
       cases rx <;> exact Post.ret k h)
    | exact (show False from h).elim
theorem ox_is : OX S (compareOp .Is) isD := by
  refine ⟨⟨_, fun X c => (op_is_bl (X := X)).or op_isN, fun W σ x y a b Q k rx ry h => ?_⟩⟩
  rcases isD_run k rx ry h with ⟨p, q, e1, e2, z⟩ | ⟨e, z⟩
  · exact .inl ⟨p, q, e1, e2, z _ (.bl _)⟩
  · exact .inr ⟨e, z _ (.bl _)⟩
theorem ox_isn : OX S (compareOp .IsNot) isnD := by
  refine ⟨⟨_, fun X c => (op_isnot_bl (X := X)).or op_notN, fun W σ x y a b Q k rx ry h => ?_⟩⟩
  rcases isD_run k rx ry (Post.bnd (Post.bnd h)) with ⟨p, q, e1, e2, z⟩ | ⟨e, z⟩
  · exact .inl ⟨p, q, e1, e2, Post.ret k (Post.ret k z) _ (.bl _)⟩
  · exact .inr ⟨e, Post.ret k (Post.ret k z) _ (.bl _)⟩
def rLtA (K : PySem.W.Frag) : R2 := fun x y H Q => ∃ d e, Dp K H x d ∧ Dp K H y e ∧ PySem.W.alike d e = true ∧ d ≠ .none ∧ d.depth ≤ 64 ∧ Q (.bl (PySem.W.dataLt d e)) H
theorem op_ltA {X : Cx} (hu : X.A.units + 65 < cLine) : OpR X (compareOp .Lt) (rLtA X.K) := by
  intro pins s σ H x y v u Q I rx ry h
  obtain ⟨d, e, hd, he, al, nn, dd, q⟩ := h
  obtain ⟨as, r1⟩ := Dp.reads I d x v hd rx
  obtain ⟨bs, r2⟩ := Dp.reads I e y u he ry
  exact PySem.W.rcLt_alike d e X.A s v u as bs r1 r2 al nn (by have := Nat.min_le_left d.depth e.depth; omega) X.prog X.w X.xe _ ⟨.bl _, H, I, rfl, q⟩
def ltD (a b : D) : Mo D := fun M => match py (res M a), py (res M b) with
  | some d, some e => if PySem.W.alike d e = true ∧ d.depth ≤ 64 then (match d with
    | .none => none
    | .int i => match e with
      | .int j => some (.ok (.bl (decide (i < j))), M)
      | _ => none
    | d => some (.ok (.bl (PySem.W.dataLt d e)), M)) else none
  | _, _ => none
theorem ox_lt : OX S (compareOp .Lt) ltD := by
  refine ⟨⟨rLtA S.F, fun X c => by have z := op_ltA (X := X) (hu_of' c); rw [c.K] at z; exact z, fun W σ x y a b Q k rx ry h => ?_⟩⟩
  unfold ltD at h
  split at h
  · rename_i d e e1 e2
    split at h
    · rename_i hs
      have z1 := res_dp k rx e1
      have z2 := res_dp k ry e2
      split at h
      · exact h.elim
      · rename_i i
        split at h
        · rename_i j
          refine ⟨_, _, z1, z2, hs.1, (by intro q; cases q), hs.2, ?_⟩
          rw [PySem.W.dataLt_int]
          exact post_ok k h _ (.bl _)
        · exact h.elim
      · rename_i nn ni
        exact ⟨_, _, z1, z2, hs.1, nn, hs.2, post_ok k h _ (.bl _)⟩
    · exact h.elim
  · exact h.elim
theorem ox_ii {op : CmpOp} {p : Int → Int → Bool} (h : ∀ X : Cx, OpR X (compareOp op) (rI0 fun i j => .bl (p i j))) : OX S (compareOp op) (intOp (fun _ _ => true) fun i j => .bl (p i j)) := ⟨⟨_, fun X c => h X, fun W σ x y a b Q k rx ry h => by
  obtain ⟨i, j, h1, h2, _, q⟩ := intOp_run k rx ry h
  exact ⟨i, j, h1, h2, q _ (.bl _)⟩⟩⟩
def leD : D → D → Mo D := intOp (fun _ _ => true) fun i j => .bl (decide (i ≤ j))
def gtD : D → D → Mo D := intOp (fun _ _ => true) fun i j => .bl (decide (j < i))
def geD : D → D → Mo D := intOp (fun _ _ => true) fun i j => .bl (decide (j ≤ i))
theorem ox_le : OX S (compareOp .LtE) leD := ox_ii fun X => op_le
theorem ox_gt : OX S (compareOp .Gt) gtD := ox_ii fun X => op_gt
theorem ox_ge : OX S (compareOp .GtE) geD := ox_ii fun X => op_ge
end
end DL
namespace DL
open PySem PySem.Spec PyProof.Rows L2
section
variable {S : SC} {W : Wd} {σ : L2.St}
def arg1 (g : D → Mo D) : List D → Mo D
  | [a] => g a
  | _ => .stuck
theorem arg1_run {g : D → Mo D} {vs : List V} {ds : List D} {Q : VK} (r : RpA S.K W vs ds) (h : Post S W σ (arg1 g ds W.M) (PV S Q)) : ∃ v d, vs = [v] ∧ Rp S.K W v d ∧ Post S W σ (g d W.M) (PV S Q) := by
  match ds, r, h with
  | [], _, h => exact (show False from h).elim
  | [d], .cons rv .nil, h => exact ⟨_, d, rfl, rv, h⟩
  | _ :: _ :: _, _, h => exact (show False from h).elim
def arg2 (g : D → D → Mo D) : List D → Mo D
  | [a, b] => g a b
  | _ => .stuck
theorem arg2_run {g : D → D → Mo D} {vs : List V} {ds : List D} {Q : VK} (r : RpA S.K W vs ds) (h : Post S W σ (arg2 g ds W.M) (PV S Q)) : ∃ v u d e, vs = [v, u] ∧ Rp S.K W v d ∧ Rp S.K W u e ∧ Post S W σ (g d e W.M) (PV S Q) := by
  match ds, r, h with
  | [], _, h => exact (show False from h).elim
  | [_], _, h => exact (show False from h).elim
  | [d, e], .cons rv (.cons ru .nil), h => exact ⟨_, _, d, e, rfl, rv, ru, h⟩
  | _ :: _ :: _ :: _, _, h => exact (show False from h).elim
/-- len -/
def lenB (M : Mem) (d : D) : Option Nat := match res M d with
  | .str y => if y.length ≤ sizeLine then some y.length else none
  | .tup l => some l.length
  | .lst l => some l.length
  | _ => none
def lenD (d : D) : Mo D := fun M => match lenB M d with
  | some n => some (.ok (.int n), M)
  | none => none
theorem cx_len : CXx S (.builtin "len") (arg1 lenD) := by
  refine ⟨⟨_, fun X c => by have z := (call_len_seq (X := X)).or call_len_str; rw [c.K] at z; exact z, fun W σ vs ds Q k r h => ?_⟩⟩
  obtain ⟨v, d, rfl, rv, h⟩ := arg1_run r h
  unfold lenD lenB at h
  cases e : res W.M d with
  | str y =>
    rw [e] at h
    simp only at h
    split at h
    · rename_i n hn
      split at hn
      · rename_i hl
        cases hn
        exact .inr ⟨y, by rw [res_str rv e], hl, post_ok k h _ (.int _)⟩
      · cases hn
    · exact h.elim
  | tup l =>
    rw [e] at h
    obtain ⟨a, xs, rfl, h1, h2⟩ := res_tup rv e
    exact .inl ⟨a, xs, rfl, .inr h1, by rw [h2.length]; exact post_ok k h _ (.int _)⟩
  | lst l =>
    rw [e] at h
    obtain ⟨a, xs, rfl, h1, h2⟩ := rd_lst k rv e
    exact .inl ⟨a, xs, rfl, .inl h1, by rw [h2.length]; exact post_ok k h _ (.int _)⟩
  | _ => rw [e] at h; exact h.elim
def absD (d : D) : Mo D := match d with
  | .int i => .ret (.int (if i < 0 then -i else i))
  | _ => .stuck
theorem cx_abs : CXx S (.builtin "abs") (arg1 absD) := by
  refine ⟨⟨_, fun X c => call_abs, fun W σ vs ds Q k r h => ?_⟩⟩
  obtain ⟨v, d, rfl, rv, h⟩ := arg1_run r h
  cases d with
  | int i => exact ⟨i, by rw [rp_int rv], Post.ret k h _ (.int _)⟩
  | _ => exact (show False from h).elim
def intD (d : D) : Mo D := match d with
  | .int i => .ret (.int i)
  | .bl b => .ret (.int (if b then 1 else 0))
  | _ => .stuck
theorem cx_int : CXx S (.type "int") (arg1 intD) := by
  refine ⟨⟨_, fun X c => call_int1, fun W σ vs ds Q k r h => ?_⟩⟩
  obtain ⟨v, d, rfl, rv, h⟩ := arg1_run r h
  cases d with
  | int i => exact .inl ⟨i, by rw [rp_int rv], Post.ret k h _ (.int _)⟩
  | bl b => exact .inr ⟨b, by rw [rp_bl rv], Post.ret k h _ (.int _)⟩
  | _ => exact (show False from h).elim
def gcdD (a b : D) : Mo D := intOp (fun _ _ => true) (fun i j => .int ((Nat.gcd i.natAbs j.natAbs : Nat) : Int)) a b
theorem cx_gcd : CXx S (.builtin "math.gcd") (arg2 gcdD) := by
  refine ⟨⟨_, fun X c => cr_gcd, fun W σ vs ds Q k r h => ?_⟩⟩
  obtain ⟨v, u, d, e, rfl, rv, ru, h⟩ := arg2_run r h
  obtain ⟨i, j, h1, h2, _, q⟩ := intOp_run k rv ru h
  exact ⟨i, j, by rw [h1, h2], q _ (.int _)⟩
def minD2 (a b : D) : Mo D := intOp (fun _ _ => true) (fun i j => .int (if j < i then j else i)) a b
def maxD2 (a b : D) : Mo D := intOp (fun _ _ => true) (fun i j => .int (if j > i then j else i)) a b
theorem cx_min2 : CXx S (.builtin "min") (arg2 minD2) := by
  refine ⟨⟨_, fun X c => call_min2 c.calm, fun W σ vs ds Q k r h => ?_⟩⟩
  obtain ⟨v, u, d, e, rfl, rv, ru, h⟩ := arg2_run r h
  obtain ⟨i, j, h1, h2, _, q⟩ := intOp_run k rv ru h
  exact ⟨i, j, by rw [h1, h2], q _ (.int _)⟩
theorem cx_max2 : CXx S (.builtin "max") (arg2 maxD2) := by
  refine ⟨⟨_, fun X c => call_max2 c.calm, fun W σ vs ds Q k r h => ?_⟩⟩
  obtain ⟨v, u, d, e, rfl, rv, ru, h⟩ := arg2_run r h
  obtain ⟨i, j, h1, h2, _, q⟩ := intOp_run k rv ru h
  exact ⟨i, j, by rw [h1, h2], q _ (.int _)⟩
/-- a global function of a built-in module (gcd) -/
theorem ex_callF {id : String} {x : Str} {p pos : Pos} {e : Expr} {es : List Expr} {g : List D → Mo D} {fa : En → Mo (List D)} (hc : CXx S (.builtin id) g) (hg : Gs S x) (hm : S.mg x = some (.builtin id)) (ha : AX S (e :: es) fa)
    (hdb : (x == ("__debug__" : Str)) = false := by decide) (he : ∀ env : PySem.Env, starEach (e :: es) env = (false, eval e env) :: starEach es env := by intro; rfl) (hpl : ∀ env : PySem.Env, (backTo pos (starEach es env)).any (·.1) = false := by intro; rfl) :
    EX S (.Call (.Name x p) (e :: es) [] pos) (fun ρ => .bnd (fa ρ) g) := by
  obtain ⟨r, h1, h2⟩ := hc.ex
  obtain ⟨ta, a1, a2⟩ := ha.ex
  refine ⟨tCB r ta, fun X c => pe_callBfun (h1 X c) (gl_of c hg) (by rw [c.mg]; exact hm) (a1 X c) hdb (he X.env) (hpl X.env), fun W σ ρ Q k st h => ?_⟩
  exact a2 W σ ρ _ k st (Post.imp (Post.bnd h) fun ds W1 l1 k1 q vs rvs => h2 W1 σ vs ds Q k1 rvs q)

theorem ex_ty {x : Str} {n : String} {pos : Pos} (hg : Gs S x) (hm : S.mg x = none) (hv : bootBuiltins x = some (.type n)) (hn : x ≠ "__name__" := by decide) (hd : (x == ("__debug__" : Str)) = false := by decide) : EX S (.Name x pos) (fun _ => .ret (.ty n)) :=
  ⟨tC (.ty n), fun X c => pe_bltn (gl_of c hg) (by rw [c.mg]; exact hm) hv rfl hn hd, sem_c fun _ => .ty n⟩
/-- the six classes that are asked for -/
inductive Cl where
  | int | bool | str | tuple | list | dict
  deriving DecidableEq
def Cl.name : Cl → String
  | .int => "int" | .bool => "bool" | .str => "str" | .tuple => "tuple" | .list => "list" | .dict => "dict"
def clOf (n : String) : Option Cl := if n = "int" then some .int else if n = "bool" then some .bool else if n = "str" then some .str else if n = "tuple" then some .tuple else if n = "list" then some .list else if n = "dict" then some .dict else none
theorem clOf_name {n : String} {c : Cl} (h : clOf n = some c) : n = c.name := by
  unfold clOf at h
  repeat (split at h; · (cases h; assumption))
  cases h
theorem clOf_self (c : Cl) : clOf c.name = some c := by cases c <;> decide
/-- is a value of the class -/
def isCl (M : Mem) (c : Cl) (d : D) : Option Bool := match res M d with
  | .non => some false
  | .bl _ => some (decide (c = .bool) || decide (c = .int))
  | .int _ => some (decide (c = .int))
  | .str _ => some (decide (c = .str))
  | .tup _ => some (decide (c = .tuple))
  | .lst _ => some (decide (c = .list))
  | _ => none
def isiD (a b : D) : Mo D := fun M => match b with
  | .ty n => match clOf n with
    | some c => match isCl M c a with
      | some k => some (.ok (.bl k), M)
      | none => none
    | none => none
  | _ => none
theorem kit_tab (c : Cl) : kitB "NoneType" c.name = some false ∧ kitB "bool" c.name = some (decide (c = .bool) || decide (c = .int)) ∧ kitB "int" c.name = some (decide (c = .int)) ∧ kitB "str" c.name = some (decide (c = .str)) ∧
    kitB "tuple" c.name = some (decide (c = .tuple)) ∧ kitB "list" c.name = some (decide (c = .list)) := by
  cases c <;> decide +kernel
theorem tyx_tup {K : PySem.W.Frag} {H : Hp} {a : Addr} {xs : List V} (h : SqT K H a xs) : TyX K H (.ref a) (.type "tuple") := by
  rcases h with (h | ⟨o, h⟩) | ⟨o, its, n, h1, h2, _⟩
  · exact .base (.tup h)
  · exact .fTuple h
  · exact .kTuple h1 h2
theorem tyx_lst {K : PySem.W.Frag} {H : Hp} {a : Addr} {xs : List V} (h : SqL K H a xs) : TyX K H (.ref a) (.type "list") := by
  rcases h with (h | ⟨o, h⟩) | ⟨o, its, n, h1, h2, _⟩
  · exact .base (.lst h)
  · exact .base (.frz h)
  · exact .kList h1 h2
theorem cx_isi : CXx S (.builtin "isinstance") (arg2 isiD) := by
  refine ⟨⟨_, fun X c => by have z := call_isi (X := X); rw [c.K] at z; exact z, fun W σ vs ds Q k r h => ?_⟩⟩
  obtain ⟨v, u, d, e, rfl, rv, ru, h⟩ := arg2_run r h
  unfold isiD at h
  cases e with
  | ty n =>
    cases ru
    simp only at h
    cases hc : clOf n with
    | none => rw [hc] at h; exact h.elim
    | some c =>
      rw [hc] at h
      rw [clOf_name hc]
      obtain ⟨t1, t2, t3, t4, t5, t6⟩ := kit_tab c
      simp only [isCl] at h
      cases e : res W.M d with
      | non =>
        rw [e] at h
        have ev : v = .non := by cases d <;> first | (cases e; exact rp_non rv) | (simp only [res] at e; split at e <;> cases e) | cases e
        exact ⟨v, _, .type "NoneType", _, _, rfl, .ty c.name, by rw [ev]; exact .base .non, kit_ty t1, post_ok k h _ (.bl _)⟩
      | bl b =>
        rw [e] at h
        have ev : v = .bl b := by cases d <;> first | (cases e; exact rp_bl rv) | (simp only [res] at e; split at e <;> cases e) | cases e
        exact ⟨v, _, .type "bool", _, _, rfl, .ty c.name, by rw [ev]; exact .base (.bl b), kit_ty t2, post_ok k h _ (.bl _)⟩
      | int i =>
        rw [e] at h
        exact ⟨v, _, .type "int", _, _, rfl, .ty c.name, by rw [res_int rv e]; exact .base (.int i), kit_ty t3, post_ok k h _ (.bl _)⟩
      | str y =>
        rw [e] at h
        exact ⟨v, _, .type "str", _, _, rfl, .ty c.name, by rw [res_str rv e]; exact .base (.str y), kit_ty t4, post_ok k h _ (.bl _)⟩
      | tup l =>
        rw [e] at h
        obtain ⟨a, xs, rfl, h1, h2⟩ := res_tup rv e
        exact ⟨_, _, .type "tuple", _, _, rfl, .ty c.name, tyx_tup h1, kit_ty t5, post_ok k h _ (.bl _)⟩
      | lst l =>
        rw [e] at h
        obtain ⟨a, xs, rfl, h1, h2⟩ := rd_lst k rv e
        exact ⟨_, _, .type "list", _, _, rfl, .ty c.name, tyx_lst h1, kit_ty t6, post_ok k h _ (.bl _)⟩
      | _ => rw [e] at h; exact h.elim
  | _ => exact h.elim

def seqB (M : Mem) (d : D) : Option (List D) := match res M d with
  | .tup l => some l
  | .lst l => some l
  | _ => none
def listD (d : D) : Mo D := fun M => match seqB M d with
  | some l => some (.ok (.lst l), M)
  | none => none
/-- list(..) that will change -/
def listM (d : D) : Mo D := fun M => match seqB M d with
  | some l => some (.ok (.ref M.length), M ++ [.lst l])
  | none => none
def tupleD (d : D) : Mo D := fun M => match seqB M d with
  | some l => some (.ok (.tup l), M)
  | none => none
theorem seqB_run {K : KP} {v : V} {d : D} {l : List D} (k : Ok K W) (r : Rp K W v d) (h : seqB W.M d = some l) : ∃ a xs, v = .ref a ∧ (SqL K.K W.H a xs ∨ SqT K.K W.H a xs) ∧ RpA K W xs l := by
  unfold seqB at h
  split at h
  · rename_i l e
    cases h
    obtain ⟨a, xs, rfl, h1, h2⟩ := res_tup r e
    exact ⟨a, xs, rfl, .inr h1, h2⟩
  · rename_i l e
    cases h
    obtain ⟨a, xs, rfl, h1, h2⟩ := rd_lst k r e
    exact ⟨a, xs, rfl, .inl h1, h2⟩
  · cases h
theorem post_lay {ds : List D} {vs : List V} {Q : VK} (k : Ok S.K W) (r : RpA S.K W vs ds) (h : Post S W σ (some (.ok (.lst ds), W.M)) (PV S Q)) : ∀ p, W.H p = none → Q (.ref p) (upd W.H p (.lst vs)) := fun p hp =>
  h (W.lay p (.lst vs)) (le_lay k hp) (k.lay hp) rfl _ (.lst (.inl upd_same) (k.frz_new hp) (r.mono (le_lay k hp)))
theorem post_layT {ds : List D} {vs : List V} {Q : VK} (k : Ok S.K W) (r : RpA S.K W vs ds) (h : Post S W σ (some (.ok (.tup ds), W.M)) (PV S Q)) : ∀ p, W.H p = none → Q (.ref p) (upd W.H p (.tup vs)) := fun p hp =>
  h (W.lay p (.tup vs)) (le_lay k hp) (k.lay hp) rfl _ (.tup (.inl (.inl upd_same)) (r.mono (le_lay k hp)))
theorem post_grow {ds : List D} {vs : List V} {Q : VK} (k : Ok S.K W) (r : RpA S.K W vs ds) (h : Post S W σ (some (.ok (.ref W.M.length), W.M ++ [.lst ds])) (PV S Q)) : ∀ p, W.H p = none → Q (.ref p) (upd W.H p (.lst vs)) := fun p hp => by
  have l := le_grow (K := S.K) (ho := .lst vs) (o := .lst ds) k hp
  refine h (W.grow p (.lst vs) (.lst ds)) l (k.grow hp ⟨vs, upd_same, r.mono l⟩) rfl _ (.ref ?_)
  show (W.β ++ [p])[W.M.length]? = some p
  rw [← k.len]; simp
theorem cx_list : CXx S (.type "list") (arg1 listD) := by
  refine ⟨⟨_, fun X c => by have z := call_list_of (X := X); rw [c.K] at z; exact z, fun W σ vs ds Q k r h => ?_⟩⟩
  obtain ⟨v, d, rfl, rv, h⟩ := arg1_run r h
  unfold listD at h
  split at h
  · rename_i l e
    obtain ⟨a, xs, rfl, h1, h2⟩ := seqB_run k rv e
    exact ⟨a, xs, rfl, h1, post_lay k h2 h⟩
  · exact h.elim
theorem cx_listM : CXx S (.type "list") (arg1 listM) := by
  refine ⟨⟨_, fun X c => by have z := call_list_of (X := X); rw [c.K] at z; exact z, fun W σ vs ds Q k r h => ?_⟩⟩
  obtain ⟨v, d, rfl, rv, h⟩ := arg1_run r h
  unfold listM at h
  split at h
  · rename_i l e
    obtain ⟨a, xs, rfl, h1, h2⟩ := seqB_run k rv e
    exact ⟨a, xs, rfl, h1, post_grow k h2 h⟩
  · exact h.elim
theorem cx_tuple : CXx S (.type "tuple") (arg1 tupleD) := by
  refine ⟨⟨_, fun X c => by have z := call_tuple_of (X := X); rw [c.K] at z; exact z, fun W σ vs ds Q k r h => ?_⟩⟩
  obtain ⟨v, d, rfl, rv, h⟩ := arg1_run r h
  unfold tupleD at h
  split at h
  · rename_i l e
    obtain ⟨a, xs, rfl, h1, h2⟩ := seqB_run k rv e
    refine ⟨a, xs, rfl, ?_⟩
    rcases h1 with h1 | h1
    · exact .inl ⟨h1, post_layT k h2 h⟩
    · exact .inr ⟨h1, post_ok k h _ (.tup h1 h2)⟩
  · exact h.elim

def inB (M : Mem) (x y : D) : Option Bool := match seqB M y with
  | some l => match py (res M x), pyL l with
    | some d, some ds => if SeqAt.shaped d = true ∧ SeqAt.shaped (.list ds) = true then some (ds.any fun z => PyData.eqv z d) else none
    | _, _ => none
  | none => none
def inD (x y : D) : Mo D := fun M => match inB M x y with
  | some c => some (.ok (.bl c), M)
  | none => none
def ninD (x y : D) : Mo D := fun M => match inB M x y with
  | some c => some (.ok (.bl (!c)), M)
  | none => none
def rInA (K : PySem.W.Frag) (neg : Bool) : R2 := fun x y H Q => ∃ d ds, Dp K H x d ∧ (Dp K H y (.list ds) ∨ Dp K H y (.tuple ds)) ∧ SeqAt.shaped d = true ∧ SeqAt.shaped (.list ds) = true ∧ Q (.bl (if neg then !ds.any (fun z => PyData.eqv z d) else ds.any fun z => PyData.eqv z d)) H
theorem op_inA {X : Cx} (hu : X.A.units + 65 < cLine) : OpR X (compareOp .In) (rInA X.K false) := by
  intro pins s σ H x y v u Q I rx ry h
  obtain ⟨d, ds, hd, he, sd, se, q⟩ := h
  obtain ⟨as, r1⟩ := Dp.reads I d x v hd rx
  rcases he with he | he
  · obtain ⟨bs, r2⟩ := Dp.reads I (.list ds) y u he ry
    exact SeqAt.in_list_reads r2 r1 (SeqAt.canLay_of_shaped se) (SeqAt.canLay_of_shaped sd) (room_in_shaped sd hu) ⟨.bl _, H, I, rfl, q⟩
  · obtain ⟨bs, r2⟩ := Dp.reads I (.tuple ds) y u he ry
    exact SeqAt.in_tuple_reads r2 r1 (SeqAt.canLay_of_shaped se) (SeqAt.canLay_of_shaped sd) (room_in_shaped sd hu) ⟨.bl _, H, I, rfl, q⟩
theorem op_ninA {X : Cx} (hu : X.A.units + 65 < cLine) : OpR X (compareOp .NotIn) (rInA X.K true) := by
  intro pins s σ H x y v u Q I rx ry h
  obtain ⟨d, ds, hd, he, sd, se, q⟩ := h
  obtain ⟨as, r1⟩ := Dp.reads I d x v hd rx
  rcases he with he | he
  · obtain ⟨bs, r2⟩ := Dp.reads I (.list ds) y u he ry
    exact SeqAt.notIn_list_reads r2 r1 (SeqAt.canLay_of_shaped se) (SeqAt.canLay_of_shaped sd) (room_in_shaped sd hu) ⟨.bl _, H, I, rfl, q⟩
  · obtain ⟨bs, r2⟩ := Dp.reads I (.tuple ds) y u he ry
    exact SeqAt.notIn_tuple_reads r2 r1 (SeqAt.canLay_of_shaped se) (SeqAt.canLay_of_shaped sd) (room_in_shaped sd hu) ⟨.bl _, H, I, rfl, q⟩
theorem inB_run {K : KP} {x y : V} {a b : D} {c : Bool} (k : Ok K W) (rx : Rp K W x a) (ry : Rp K W y b) (h : inB W.M a b = some c) :
    ∃ d ds, Dp K.K W.H x d ∧ (Dp K.K W.H y (.list ds) ∨ Dp K.K W.H y (.tuple ds)) ∧ SeqAt.shaped d = true ∧ SeqAt.shaped (.list ds) = true ∧ (ds.any fun z => PyData.eqv z d) = c := by
  unfold inB at h
  split at h
  · rename_i l e
    obtain ⟨p, xs, rfl, h1, h2⟩ := seqB_run k ry e
    split at h
    · rename_i d ds e1 e2
      split at h
      · rename_i hs
        cases h
        refine ⟨d, ds, res_dp k rx e1, ?_, hs.1, hs.2, rfl⟩
        rcases h1 with h1 | h1
        · exact .inl (.lst h1 (rpa_dp h2 e2))
        · exact .inr (.tup h1 (rpa_dp h2 e2))
      · cases h
    · cases h
  · cases h
theorem ox_in : OX S (compareOp .In) inD := by
  refine ⟨⟨rInA S.F false, fun X c => by have z := op_inA (X := X) (hu_of' c); rw [c.K] at z; exact z, fun W σ x y a b Q k rx ry h => ?_⟩⟩
  unfold inD at h
  split at h
  · rename_i c e
    obtain ⟨d, ds, h1, h2, h3, h4, h5⟩ := inB_run k rx ry e
    exact ⟨d, ds, h1, h2, h3, h4, by rw [if_neg Bool.false_ne_true, h5]; exact post_ok k h _ (.bl c)⟩
  · exact h.elim
theorem ox_nin : OX S (compareOp .NotIn) ninD := by
  refine ⟨⟨rInA S.F true, fun X c => by have z := op_ninA (X := X) (hu_of' c); rw [c.K] at z; exact z, fun W σ x y a b Q k rx ry h => ?_⟩⟩
  unfold ninD at h
  split at h
  · rename_i c e
    obtain ⟨d, ds, h1, h2, h3, h4, h5⟩ := inB_run k rx ry e
    exact ⟨d, ds, h1, h2, h3, h4, by rw [if_pos rfl, h5]; exact post_ok k h _ (.bl (!c))⟩
  · exact h.elim
end
end DL
namespace DL
open PySem PySem.Spec PyProof.Rows L2

def tBMg (ty : V → Hp → Prop) (r : V → List V → Hp → VK → Prop) (to : TE) (t : TA) : TE := fun σ H Q => to σ H fun x H1 => ty x H1 ∧ t σ H1 fun xs H2 => r x xs H2 Q
def TyG (X : Cx) (T : String) (ty : V → Hp → Prop) : Prop := ∀ (pins : List (Addr × Obj)) (σ : L2.St) (H : Hp) (s : Shared) (x : V) (v : Value), Inv X pins σ H s → RelV x v → ty x H → s.TypeIs v T ∧ ∀ a, v = .ref a → ∃ ob, s.heap.get? a = some ob ∧ ob.dict = none
section
variable {X : Cx} {o e : Expr} {es : List Expr} {to : TE} {t : TA} {name : Str} {apos cpos : Pos} {T id : String} {r : V → List V → Hp → VK → Prop} {ty : V → Hp → Prop}
theorem pe_bmG (pa : PlainAttrs T) (sl : Slot T name id) (hd : typeOf (.builtin id) = pure (.type "method_descriptor")) (hm : MtR X id r) (hT : TyG X T ty) (ho : PE X o to) (ha : PA X (e :: es) t)
    (hb : attributeBase o name X.env (eval o X.env) = eval o X.env)
    (hf : ((backTo cpos (starEach (e :: es) X.env)).all (fun x => !x.1) && (backToKw cpos (keywordEach [] X.env)).all (fun x => x.1.isSome) && decide ((e :: es).length + ([] : List Keyword).length + (if ([] : List Keyword).isEmpty then 0 else 1) < 30)) = true)
    (hl : (apos.endLine == cpos.line) = true) (hs : starEach (e :: es) X.env = (false, eval e X.env) :: starEach es X.env) (hp : (backTo cpos (starEach es X.env)).any (·.1) = false) :
    PE X (.Call (.Attribute o name apos) (e :: es) [] cpos) (tBMg ty r to t) := ⟨fun pins s σ H Q I h =>
  wpAny_Call_method_late hb hf hl rfl (thn (ho.run pins s σ H _ I h) fun v s1 ⟨x, H1, I1, r1, q0, q1⟩ => by
    obtain ⟨k1, k2⟩ := hT pins σ H1 s1 x v I1 r1 q0
    refine ⟨T, id, pa, sl, hd, k1, k2, ?_⟩
    have z := ha.run cpos pins s1 σ H1 _ I1 q1
    rw [hs] at z ⊢
    have hp2 : (((false, eval e X.env) :: backTo cpos (starEach es X.env)).any (·.1)) = false := by rw [List.any_cons, hp]; rfl
    exact Calls.callWith_builtin hp2 (Calls.evalArgs_plain (thn z fun us s2 ⟨vs, H2, I2, r2, q2⟩ => hm pins s2 σ H2 x vs v us Q I2 r1 r2 q2)))⟩
theorem pe_bmG0 (pa : PlainAttrs T) (sl : Slot T name id) (hd : typeOf (.builtin id) = pure (.type "method_descriptor")) (hm : MtR X id r) (hT : TyG X T ty) (ho : PE X o to)
    (hb : attributeBase o name X.env (eval o X.env) = eval o X.env) (hl : (apos.endLine == cpos.line) = true) : PE X (.Call (.Attribute o name apos) [] [] cpos) (tBMg ty r to tNil) := ⟨fun pins s σ H Q I h =>
  wpAny_Call_method0_late hb hl (thn (ho.run pins s σ H _ I h) fun v s1 ⟨x, H1, I1, r1, q0, q1⟩ => by
    obtain ⟨k1, k2⟩ := hT pins σ H1 s1 x v I1 r1 q0
    exact ⟨T, id, pa, sl, hd, k1, k2, Calls.callWith_builtin rfl (PySem.evalArgs_none (hm pins s1 σ H1 x [] v [] Q I1 r1 .nil q1))⟩)⟩
end
def tyL (K : PySem.W.Frag) (x : V) (H : Hp) : Prop := ∃ a xs, x = .ref a ∧ SqL K H a xs
def tyD (K : KP) (x : V) (H : Hp) : Prop := ∃ a, x = .ref a ∧ ((∃ kvs, Rd H a (.dK kvs)) ∨ ∃ xs, Rd H a (TD K a xs))
theorem tyG_list {X : Cx} : TyG X "list" (tyL X.K) := by
  intro pins σ H s x v I r h
  obtain ⟨a, xs, rfl, h⟩ := h
  cases r
  obtain ⟨its, _, ⟨o, n, e, hc, hd, _⟩, _⟩ := I.list h
  exact ⟨⟨o, e, hc⟩, fun b hb => by cases hb; exact ⟨o, e, hd⟩⟩
theorem td_at {X : Cx} {pins : List (Addr × Obj)} {σ : L2.St} {H : Hp} {s : Shared} {a : Addr} {xs : TE3} {K : KP} (I : Inv X pins σ H s) (h : Rd H a (TD K a xs)) : TDok K a xs s.heap := (h.ok I.hok).1
theorem tyG_dict {X : Cx} {K : KP} : TyG X "dict" (tyD K) := by
  intro pins σ H s x v I r h
  obtain ⟨a, rfl, h⟩ := h
  cases r
  rcases h with ⟨kvs, h⟩ | ⟨xs, h⟩
  · obtain ⟨_, _, vs, _, o, es, ep, e, c, _⟩ := dk_rd I.hok h
    exact ⟨⟨o, e, c.1⟩, fun b hb => by cases hb; exact ⟨o, e, c.2.1⟩⟩
  · obtain ⟨_, _, o, es, ep, e, c, _⟩ := td_at I h
    exact ⟨⟨o, e, c.1⟩, fun b hb => by cases hb; exact ⟨o, e, c.2.1⟩⟩
section
variable {S : SC} {W : Wd} {σ : L2.St}
/-- a method g of the type T, of receivers that c lets in -/
structure MX (S : SC) (T : String) (name : Str) (c : Mem → D → Bool) (g : D → List D → Mo D) : Prop where
  ex : ∃ (id : String) (ty : V → Hp → Prop) (r : V → List V → Hp → VK → Prop), PlainAttrs T ∧ Slot T name id ∧ typeOf (.builtin id) = pure (.type "method_descriptor") ∧ (∀ X, InC S X → TyG X T ty ∧ MtR X id r) ∧
    (∀ (W : Wd) (x : V) (a : D), Ok S.K W → Rp S.K W x a → c W.M a = true → ty x W.H) ∧
    ∀ (W : Wd) (σ : L2.St) (x : V) (xs : List V) (a : D) (as : List D) (Q : VK), Ok S.K W → Rp S.K W x a → RpA S.K W xs as → Post S W σ (g a as W.M) (PV S Q) → r x xs W.H Q
def chkM {α : Type} (c : Mem → D → Bool) (a : D) (m : Mo α) : Mo α := fun M => cond (c M a) (m M) none
theorem ex_meth {T : String} {name : Str} {c : Mem → D → Bool} {g : D → List D → Mo D} {o e : Expr} {es : List Expr} {apos cpos : Pos} {fo : En → Mo D} {fa : En → Mo (List D)} (hm : MX S T name c g) (ho : EX S o fo) (ha : AX S (e :: es) fa)
    (hb : ∀ X, InC S X → attributeBase o name X.env (eval o X.env) = eval o X.env := by intros; rfl)
    (hf : ∀ env : PySem.Env, ((backTo cpos (starEach (e :: es) env)).all (fun x => !x.1) && (backToKw cpos (keywordEach [] env)).all (fun x => x.1.isSome) && decide ((e :: es).length + ([] : List Keyword).length + (if ([] : List Keyword).isEmpty then 0 else 1) < 30)) = true := by intro; rfl)
    (hl : (apos.endLine == cpos.line) = true := by rfl) (hs : ∀ env : PySem.Env, starEach (e :: es) env = (false, eval e env) :: starEach es env := by intro; rfl) (hp : ∀ env : PySem.Env, (backTo cpos (starEach es env)).any (·.1) = false := by intro; rfl) :
    EX S (.Call (.Attribute o name apos) (e :: es) [] cpos) (fun ρ => .bnd (fo ρ) fun a => chkM c a (.bnd (fa ρ) fun as => g a as)) := by
  obtain ⟨id, ty, r, m1, m2, m3, m4, m5, m6⟩ := hm.ex
  obtain ⟨to, o1, o2⟩ := ho.ex
  obtain ⟨ta, a1, a2⟩ := ha.ex
  refine ⟨tBMg ty r to ta, fun X cx => pe_bmG m1 m2 m3 (m4 X cx).2 (m4 X cx).1 (o1 X cx) (a1 X cx) (hb X cx) (hf X.env) hl (hs X.env) (hp X.env), fun W σ ρ Q k st h => ?_⟩
  refine o2 W σ ρ _ k st (Post.imp (Post.bnd h) fun a W1 l1 k1 h1 v rv => ?_)
  obtain ⟨h2, h3⟩ := post_condO h1
  refine ⟨m5 W1 v a k1 rv h2, a2 W1 σ ρ _ k1 (st.mono l1) (Post.imp (Post.bnd h3) fun as W2 l2 k2 h4 vs rvs => ?_)⟩
  exact m6 W2 σ v vs a as Q k2 (rv.mono l2) rvs h4
theorem ex_meth0 {T : String} {name : Str} {c : Mem → D → Bool} {g : D → List D → Mo D} {o : Expr} {apos cpos : Pos} {fo : En → Mo D} (hm : MX S T name c g) (ho : EX S o fo)
    (hb : ∀ X, InC S X → attributeBase o name X.env (eval o X.env) = eval o X.env := by intros; rfl) (hl : (apos.endLine == cpos.line) = true := by rfl) :
    EX S (.Call (.Attribute o name apos) [] [] cpos) (fun ρ => .bnd (fo ρ) fun a => chkM c a (g a [])) := by
  obtain ⟨id, ty, r, m1, m2, m3, m4, m5, m6⟩ := hm.ex
  obtain ⟨to, o1, o2⟩ := ho.ex
  refine ⟨tBMg ty r to tNil, fun X cx => pe_bmG0 m1 m2 m3 (m4 X cx).2 (m4 X cx).1 (o1 X cx) (hb X cx) hl, fun W σ ρ Q k st h => ?_⟩
  refine o2 W σ ρ _ k st (Post.imp (Post.bnd h) fun a W1 l1 k1 h1 v rv => ?_)
  obtain ⟨h2, h3⟩ := post_condO h1
  exact ⟨m5 W1 v a k1 rv h2, m6 W1 σ v [] a [] Q k1 rv .nil h3⟩

def isL (M : Mem) (d : D) : Bool := match res M d with
  | .lst _ => true
  | _ => false
theorem isL_ty {x : V} {a : D} (k : Ok S.K W) (r : Rp S.K W x a) (h : isL W.M a = true) : tyL S.F x W.H := by
  unfold isL at h
  split at h
  · rename_i l e
    obtain ⟨p, xs, rfl, h1, _⟩ := rd_lst k r e
    exact ⟨p, xs, rfl, h1⟩
  · cases h
/-- the items of a changing list -/
def cur (M : Mem) (d : D) : Option (Nat × List D) := match d with
  | .ref n => match M[n]? with
    | some (.lst l) => some (n, l)
    | _ => none
  | _ => none
theorem cur_run {K : KP} {x : V} {a : D} {n : Nat} {l : List D} (k : Ok K W) (r : Rp K W x a) (h : cur W.M a = some (n, l)) : a = .ref n ∧ W.M[n]? = some (.lst l) ∧ ∃ p xs, x = .ref p ∧ W.β[n]? = some p ∧ W.H p = some (.lst xs) ∧ RpA K W xs l := by
  cases a with
  | ref m =>
    cases r with
    | @ref _ p hb =>
      simp only [cur] at h
      split at h
      · rename_i l' e
        cases h
        obtain ⟨xs, h1, h2⟩ := k.ob _ _ _ hb e
        exact ⟨rfl, e, p, xs, rfl, hb, h1, h2⟩
      · cases h
  | _ => cases h
/-- a changing list gets other items -/
theorem put_lst {Q : VK} {n : Nat} {p : Addr} {l ds : List D} {vs : List V} {d : D} {v : V} (k : Ok S.K W) (hb : W.β[n]? = some p) (hm : W.M[n]? = some (.lst l)) (r : RpA S.K W vs ds) (rv : Rp S.K W v d)
    (h : Post S W σ (some (.ok d, W.M.set n (.lst ds))) (PV S Q)) : Q v (upd W.H p (.lst vs)) := by
  have le := le_put (K := S.K) (ho := .lst vs) (o := .lst ds) k hb hm (by intro q; cases q)
  exact h (W.put n p (.lst vs) (.lst ds)) le (k.put hb hm (by intro q; cases q) ⟨vs, upd_same, r.mono le⟩) rfl v (rv.mono le)
def appendD (a : D) : List D → Mo D
  | [d] => fun M => match cur M a with
    | some (n, l) => cond (decide (l.length < sizeLine)) (some (.ok .non, M.set n (.lst (l ++ [d])))) none
    | none => none
  | _ => .stuck
theorem mx_append : MX S "list" "append" isL appendD := by
  refine ⟨⟨"list.append", tyL S.F, rAppend, PySem.F.plainAttrs_list, PySem.F.slot_list_append, PySem.F.type_list_append, fun X c => ⟨by have z := tyG_list (X := X); rw [c.K] at z; exact z, mt_append⟩, fun W x a k r h => isL_ty k r h, fun W σ x xs a as Q k r rs h => ?_⟩⟩
  match as, rs, h with
  | [], _, h => exact h.elim
  | [d], .cons (v := v) rv .nil, h =>
    simp only [appendD] at h
    split at h
    · rename_i n l e
      obtain ⟨_, hm, p, xs, rfl, hb, hH, rl⟩ := cur_run k r e
      obtain ⟨h1, h2⟩ := post_condO h
      exact ⟨p, xs, v, rfl, rfl, hH, by rw [rl.length]; exact of_decide_eq_true h1, put_lst k hb hm (rl.append (.one rv)) .non h2⟩
    · exact h.elim
  | _ :: _ :: _, _, h => exact h.elim
/-- xs.pop(), xs.pop(i) -/
def popD (a : D) : List D → Mo D
  | [] => fun M => match cur M a with
    | some (n, l) => match l[l.length - 1]? with
      | some d => some (.ok d, M.set n (.lst l.dropLast))
      | none => none
    | none => none
  | [.int i] => fun M => match cur M a with
    | some (n, l) => if -(2 ^ 63) ≤ i ∧ i < 2 ^ 63 then (match seqIndex? i l.length with
      | some j => match l[j]? with
        | some d => some (.ok d, M.set n (.lst (l.eraseIdx j)))
        | none => none
      | none => none) else none
    | none => none
  | _ => .stuck
theorem mx_pop : MX S "list" "pop" isL popD := by
  refine ⟨⟨"list.pop", tyL S.F, fun x xs H Q => rPop x xs H Q ∨ rPopAt x xs H Q, PySem.F.plainAttrs_list, PySem.F.slot_list_pop, PySem.F.type_list_pop, fun X c => ⟨by have z := tyG_list (X := X); rw [c.K] at z; exact z, MtR.or mt_pop mt_popAt⟩, fun W x a k r h => isL_ty k r h, fun W σ x xs a as Q k r rs h => ?_⟩⟩
  unfold popD at h
  split at h
  · cases rs
    split at h
    · rename_i n l e
      obtain ⟨_, hm, p, xs, rfl, hb, hH, rl⟩ := cur_run k r e
      split at h
      · rename_i d hd
        obtain ⟨v, hv, rv⟩ := rl.get hd
        exact .inl ⟨p, xs, v, rfl, rfl, hH, by rw [rl.length]; exact hv, put_lst k hb hm rl.dropLast rv h⟩
      · exact h.elim
    · exact h.elim
  · rename_i i
    cases rs with
    | cons ri rn =>
      cases rn
      rw [rp_int ri]
      split at h
      · rename_i n l e
        obtain ⟨_, hm, p, xs, rfl, hb, hH, rl⟩ := cur_run k r e
        split at h
        · rename_i hi
          split at h
          · rename_i j hj
            split at h
            · rename_i d hd
              obtain ⟨v, hv, rv⟩ := rl.get hd
              exact .inr ⟨p, xs, i, j, v, rfl, rfl, hH, hi.1, hi.2, by rw [rl.length]; exact hj, hv, put_lst k hb hm (rl.erase j) rv h⟩
            · exact h.elim
          · exact h.elim
        · exact h.elim
      · exact h.elim
  · exact (show False from h).elim
/-- xs.extend(ys), ys a list -/
def extendD (a : D) : List D → Mo D
  | [b] => fun M => match cur M a, res M b with
    | some (n, l), .lst m => cond (decide (l.length + m.length ≤ sizeLine)) (some (.ok .non, M.set n (.lst (l ++ m)))) none
    | _, _ => none
  | _ => .stuck

def atD (l : List D) (i : Int) : Option D := (ixN l.length i).bind fun j => l[j]?
theorem atD_run {K : KP} {xs : List V} {l : List D} {i : Int} {d : D} (r : RpA K W xs l) (h : atD l i = some d) : ∃ v, atI xs i = some v ∧ Rp K W v d := by
  unfold atD at h
  unfold atI
  rw [r.length]
  cases e : ixN l.length i with
  | none => rw [e] at h; cases h
  | some j =>
    rw [e] at h
    obtain ⟨v, h1, h2⟩ := r.get h
    exact ⟨v, h1, h2⟩

def toK : D → Option Key
  | .int i => some (.inl i)
  | .str x => some (.inr x)
  | _ => none
def toKL : List D → Option (List Key)
  | [] => some []
  | d :: r => match toK d, toKL r with
    | some k, some ks => some (k :: ks)
    | _, _ => none
def toKT : D → Option (List Key)
  | .tup l => toKL l
  | _ => none
theorem toK_kD (k : Key) : toK (kD k) = some k := by cases k <;> rfl
theorem toKL_map : ∀ ks : List Key, toKL (ks.map kD) = some ks
  | [] => rfl
  | k :: ks => by simp only [List.map_cons, toKL, toK_kD, toKL_map ks]
theorem toKT_kt (ks : List Key) : toKT (ktD ks) = some ks := toKL_map ks
theorem toK_run {K : KP} {v : V} {d : D} {k : Key} (r : Rp K W v d) (h : toK d = some k) : v = kV k ∧ d = kD k := by
  cases d with
  | int i => cases h; exact ⟨rp_int r, rfl⟩
  | str x => cases h; exact ⟨rp_str r, rfl⟩
  | _ => cases h
theorem toKL_run {K : KP} : ∀ {vs : List V} {l : List D} {ks : List Key}, RpA K W vs l → toKL l = some ks → vs = ks.map kV ∧ l = ks.map kD
  | _, _, _, .nil, h => by cases h; exact ⟨rfl, rfl⟩
  | _, _, _, .cons (d := d) (ds := ds) r t, h => by
    rw [toKL] at h
    cases e : toK d with
    | none => rw [e] at h; cases h
    | some k =>
      cases e2 : toKL ds with
      | none => rw [e, e2] at h; cases h
      | some ks =>
        rw [e, e2] at h; cases h
        obtain ⟨h1, h2⟩ := toK_run r e
        obtain ⟨h3, h4⟩ := toKL_run t e2
        exact ⟨by rw [h1, h3]; rfl, by rw [h2, h4]; rfl⟩
theorem toKT_run {K : KP} {v : V} {d : D} {ks : List Key} (r : Rp K W v d) (h : toKT d = some ks) : d = ktD ks ∧ ∃ b, v = .ref b ∧ SqT K.K W.H b (ks.map kV) := by
  cases d with
  | tup l =>
    cases r with
    | tup h1 r =>
      obtain ⟨h2, h3⟩ := toKL_run r h
      subst h2 h3
      exact ⟨rfl, _, rfl, h1⟩
  | _ => cases h
section
variable {κ : Type} [DecidableEq κ] (dec : D → Option κ)
def findG (ds : List (D × D)) (k : κ) : Option D := match ds with
  | [] => none
  | p :: r => if dec p.1 = some k then some p.2 else findG r k
def putG (ds : List (D × D)) (k : κ) (kd d : D) : List (D × D) := if (findG dec ds k).isSome then ds.map (fun p => if dec p.1 = some k then (p.1, d) else p) else ds ++ [(kd, d)]
def dropG (ds : List (D × D)) (k : κ) : List (D × D) := ds.filter fun p => decide (dec p.1 ≠ some k)
end
section
variable {K : KP}
theorem findG_k {k : Key} : ∀ {kvs : List (Key × V)} {ds : List (D × D)}, RpK K W kvs ds → (∀ d, findG toK ds k = some d → ∃ v, valV kvs k = some v ∧ Rp K W v d) ∧ (findG toK ds k = none → valV kvs k = none)
  | _, _, .nil => ⟨fun d h => by simp [findG] at h, fun _ => rfl⟩
  | _, _, .cons (k := j) (v := v) (kvs := kvs) (d := d) (ds := ds) r t => by
    unfold findG
    rw [toK_kD]
    by_cases e : j = k
    · subst e
      rw [if_pos rfl]
      exact ⟨fun d' h => by cases h; exact ⟨v, valV_pos rfl, r⟩, fun h => by cases h⟩
    · rw [if_neg (fun q => e (Option.some.inj q)), valV_neg e]
      exact findG_k t
theorem mapG_k {k : Key} {v : V} {d : D} (rv : Rp K W v d) : ∀ {kvs : List (Key × V)} {ds : List (D × D)}, RpK K W kvs ds → RpK K W (kvs.map fun kv => if kv.1 = k then (kv.1, v) else kv) (ds.map fun p => if toK p.1 = some k then (p.1, d) else p)
  | _, _, .nil => .nil
  | _, _, .cons (k := j) r t => by
    rw [List.map_cons, List.map_cons]
    simp only [toK_kD]
    by_cases e : j = k
    · subst e
      rw [if_pos rfl, if_pos rfl]
      exact .cons rv (mapG_k rv t)
    · rw [if_neg e, if_neg (fun q => e (Option.some.inj q))]
      exact .cons r (mapG_k rv t)
theorem RpK.append : ∀ {v w : List (Key × V)} {d e : List (D × D)}, RpK K W v d → RpK K W w e → RpK K W (v ++ w) (d ++ e)
  | _, _, _, _, .nil, s => s
  | _, _, _, _, .cons h t, s => .cons h (RpK.append t s)
theorem putG_k {k : Key} {v : V} {d : D} {kvs : List (Key × V)} {ds : List (D × D)} (r : RpK K W kvs ds) (rv : Rp K W v d) : RpK K W (putK kvs k v) (putG toK ds k (kD k) d) := by
  obtain ⟨h1, h2⟩ := findG_k (k := k) r
  unfold putK putG
  rw [valV_any]
  cases e : findG toK ds k with
  | none => rw [h2 e, if_neg (by simp), if_neg (by simp)]; exact r.append (.cons rv .nil)
  | some d' =>
    obtain ⟨v', e', _⟩ := h1 d' e
    rw [e', if_pos (by simp), if_pos (by simp)]
    exact mapG_k rv r
theorem dropG_k {k : Key} : ∀ {kvs : List (Key × V)} {ds : List (D × D)}, RpK K W kvs ds → RpK K W (dropK kvs k) (dropG toK ds k)
  | _, _, .nil => .nil
  | _, _, .cons (k := j) r t => by
    unfold dropK dropG
    rw [List.filter_cons, List.filter_cons]
    simp only [toK_kD]
    by_cases e : j = k
    · subst e
      rw [if_neg (by simp), if_neg (by simp)]
      exact dropG_k t
    · rw [if_pos (by simpa using e), if_pos (by simpa using e)]
      exact .cons r (dropG_k t)
theorem rpk_len : ∀ {kvs : List (Key × V)} {ds : List (D × D)}, RpK K W kvs ds → kvs.length = ds.length
  | _, _, .nil => rfl
  | _, _, .cons _ t => by simp only [List.length_cons, rpk_len t]
theorem rpt_len : ∀ {kvs : List (List Key × V)} {ds : List (D × D)}, RpT K W kvs ds → kvs.length = ds.length
  | _, _, .nil => rfl
  | _, _, .cons _ t => by simp only [List.length_cons, rpt_len t]
theorem findG_t {k : List Key} : ∀ {xs : TE3} {kvs : List (List Key × V)} {ds : List (D × D)}, KS K.K W.H xs kvs → RpT K W kvs ds → (∀ d, findG toKT ds k = some d → ∃ p v, atKey xs k = some p ∧ RelV v p.2 ∧ Rp K W v d) ∧ (findG toKT ds k = none → atKey xs k = none)
  | _, _, _, .nil, .nil => ⟨fun d h => by simp [findG] at h, fun _ => rfl⟩
  | _, _, _, .cons (k := j) (q := q) (u := u) (v := v) (xs := xs) hs ru t, .cons (ds := ds) r t2 => by
    unfold findG
    rw [toKT_kt]
    have e0 : atKey ((j, q, u) :: xs) k = if j = k then some (q, u) else atKey xs k := by
      unfold atKey
      rw [List.find?_cons]
      by_cases e : j = k
      · simp [e]
      · simp [e]
    rw [e0]
    by_cases e : j = k
    · subst e
      rw [if_pos rfl, if_pos rfl]
      exact ⟨fun d' h => by cases h; exact ⟨_, v, rfl, ru, r⟩, fun h => by cases h⟩
    · rw [if_neg (fun q => e (Option.some.inj q)), if_neg e]
      exact findG_t t t2
theorem mapG_t {k : List Key} {v : V} {u : Value} {d : D} (ru : RelV v u) (rv : Rp K W v d) : ∀ {xs : TE3} {kvs : List (List Key × V)} {ds : List (D × D)}, KS K.K W.H xs kvs → RpT K W kvs ds →
    ∃ kvs', KS K.K W.H (xs.map (putAt k u)) kvs' ∧ RpT K W kvs' (ds.map fun p => if toKT p.1 = some k then (p.1, d) else p)
  | _, _, _, .nil, .nil => ⟨[], .nil, .nil⟩
  | _, _, _, .cons (k := j) hs ru' t, .cons r t2 => by
    obtain ⟨kvs', h1, h2⟩ := mapG_t (k := k) ru rv t t2
    rw [List.map_cons, List.map_cons]
    simp only [toKT_kt, putAt]
    by_cases e : j = k
    · subst e
      rw [if_pos rfl, if_pos rfl]
      exact ⟨_, .cons hs ru h1, .cons rv h2⟩
    · rw [if_neg e, if_neg (fun q => e (Option.some.inj q))]
      exact ⟨_, .cons hs ru' h1, .cons r h2⟩
theorem KS.append {F : PySem.W.Frag} {H : Hp} : ∀ {xs ys : TE3} {k l : List (List Key × V)}, KS F H xs k → KS F H ys l → KS F H (xs ++ ys) (k ++ l)
  | _, _, _, _, .nil, s => s
  | _, _, _, _, .cons a b t, s => .cons a b (KS.append t s)
theorem RpT.append : ∀ {v w : List (List Key × V)} {d e : List (D × D)}, RpT K W v d → RpT K W w e → RpT K W (v ++ w) (d ++ e)
  | _, _, _, _, .nil, s => s
  | _, _, _, _, .cons h t, s => .cons h (RpT.append t s)
theorem putG_t {k : List Key} {b : Addr} {v : V} {u : Value} {d : D} {xs : TE3} {kvs : List (List Key × V)} {ds : List (D × D)} (h : KS K.K W.H xs kvs) (r : RpT K W kvs ds) (hb : SqT K.K W.H b (k.map kV)) (ru : RelV v u) (rv : Rp K W v d) :
    ∃ kvs', KS K.K W.H (storedH xs k b u) kvs' ∧ RpT K W kvs' (putG toKT ds k (ktD k) d) := by
  obtain ⟨h1, h2⟩ := findG_t (k := k) h r
  unfold putG
  cases e : findG toKT ds k with
  | none =>
    rw [storedH_new (h2 e), if_neg (by simp)]
    exact ⟨_, h.append (.cons hb ru .nil), r.append (.cons rv .nil)⟩
  | some d' =>
    obtain ⟨p, v', e', _⟩ := h1 d' e
    rw [storedH_old e', if_pos (by simp)]
    exact mapG_t ru rv h r
end
end
end DL
namespace DL
open PySem PySem.Spec PyProof.Rows L2

/-- the dict at a has o at the key y -/
def DG (K : KP) (H : Hp) (a : Addr) (y : V) (o : Option V) : Prop :=
  (∃ kvs k, Rd H a (.dK kvs) ∧ y = kV k ∧ o = valV kvs k) ∨
    ∃ xs ks b, Rd H a (TD K a xs) ∧ (∃ kvs, KS K.K H xs kvs) ∧ y = .ref b ∧ SqT K.K H b (ks.map kV) ∧ RelO o ((atKey xs ks).map (·.2))
section
variable {X : Cx} {pins : List (Addr × Obj)} {σ : L2.St} {H : Hp} {s : Shared} {a b : Addr} {xs : TE3} {ks : List Key} {kvs : List (List Key × V)} {y v d : V} {u r : Value} {o : Option V} {A : Around} {E : Value → Shared → Prop} {K : KP}
abbrev XK (X : Cx) : KP := ⟨X.prog, X.w, X.K, []⟩
theorem key_sq (I : Inv X pins σ H s) (h : SqT X.K H b (ks.map kV)) : (tupleKind (mixKind X.prog X.w)).is s.heap ks b := by
  obtain ⟨its, r, ⟨ob, h1, h2, n, h3⟩, _⟩ := I.tuple h
  exact ⟨ob, its.toArray, n, h1, h2, h3, by simpa using items_are r⟩
theorem keys_sq (I : Inv X pins σ H s) : ∀ {xs : TE3} {kvs : List (List Key × V)}, KS X.K H xs kvs → ∀ x ∈ xs, (tupleKind (mixKind X.prog X.w)).is s.heap x.1 x.2.1
  | _, _, .nil, x, h => by cases h
  | _, _, .cons hs _ t, x, h => by
    rcases List.mem_cons.mp h with rfl | h
    · exact key_sq I hs
    · exact keys_sq I t x h
theorem td_dict (I : Inv X pins σ H s) (h : Rd H a (TD (XK X) a xs)) (q : KS X.K H xs kvs) : xs.length ≤ sizeLine ∧ (a == sysModules) = false ∧ s.heap.DictOfH (tupleKind (mixKind X.prog X.w)) a xs := by
  obtain ⟨h1, h2, ob, es, ep, h3, h4, h5, h6, h7⟩ := td_at I h
  exact ⟨h1, h2, ob, es, ep, h3, h4, h5, h6, keys_sq I q, h7⟩
theorem dg_getItem {Q : Value → Shared → Prop} (hu : A.units + 1 < cLine) (I : Inv X pins σ H s) (g : DG (XK X) H a y (some v)) (ry : RelV y u) (h : ∀ w' s', Inv X pins σ H s' → RelV v w' → Q w' s') : wpAny (model X.prog X.w) A (getItem (.ref a) u) Q E s := by
  rcases g with ⟨kvs, k, e1, e2, e3⟩ | ⟨xs, ks, b, e1, ⟨kvs, q⟩, rfl, e2, e3⟩
  · exact d_getItem hu I (.inl ⟨kvs, k, e1, e2, e3⟩) ry h
  · cases (show u = Value.ref b from ry)
    obtain ⟨_, _, dd⟩ := td_dict I e1 q
    obtain ⟨w', hw, rw'⟩ := e3.some_of
    obtain ⟨p, hp, hp2⟩ := Option.map_eq_some_iff.mp hw
    exact wpAny_getItem_heap (tupleKind_room_in1 hu) (key_sq I e2) dd hp (by rw [hp2]; exact h w' _ (I.tok _) rw')
theorem dg_in {Q : Value → Shared → Prop} (hu : A.units + 1 < cLine) (I : Inv X pins σ H s) (g : DG (XK X) H a y o) (ry : RelV y u) (h : ∀ s', Inv X pins σ H s' → Q (.bool o.isSome) s') : wpAny (model X.prog X.w) A (compareOp .In u (.ref a)) Q E s := by
  rcases g with ⟨kvs, k, e1, e2, e3⟩ | ⟨xs, ks, b, e1, ⟨kvs, q⟩, rfl, e2, e3⟩
  · exact d_in hu I (.inl ⟨kvs, k, e1, e2, e3⟩) ry h
  · cases (show u = Value.ref b from ry)
    obtain ⟨_, hd, dd⟩ := td_dict I e1 q
    have z := e3.isSome_eq
    rw [Option.isSome_map] at z
    exact wpAny_in_heap (tupleKind_room_in1 hu) (key_sq I e2) hd dd (by rw [← z]; exact h _ (I.tok _))
theorem dg_notIn {Q : Value → Shared → Prop} (hu : A.units + 1 < cLine) (I : Inv X pins σ H s) (g : DG (XK X) H a y o) (ry : RelV y u) (h : ∀ s', Inv X pins σ H s' → Q (.bool (!o.isSome)) s') : wpAny (model X.prog X.w) A (compareOp .NotIn u (.ref a)) Q E s := by
  rcases g with ⟨kvs, k, e1, e2, e3⟩ | ⟨xs, ks, b, e1, ⟨kvs, q⟩, rfl, e2, e3⟩
  · exact d_notIn hu I (.inl ⟨kvs, k, e1, e2, e3⟩) ry h
  · cases (show u = Value.ref b from ry)
    obtain ⟨_, hd, dd⟩ := td_dict I e1 q
    have z := e3.isSome_eq
    rw [Option.isSome_map] at z
    exact wpAny_notIn_heap (tupleKind_room_in1 hu) (key_sq I e2) hd dd (by rw [← z]; exact h _ (I.tok _))
theorem dg_get1 {Q : Value → Shared → Prop} (hu : A.units + 1 < cLine) (I : Inv X pins σ H s) (g : DG (XK X) H a y o) (ry : RelV y u) (h : ∀ w' s', Inv X pins σ H s' → RelV (o.getD .non) w' → Q w' s') : wpAny (model X.prog X.w) A (call (.builtin "dict.get") [.ref a, u]) Q E s := by
  rcases g with ⟨kvs, k, e1, e2, e3⟩ | ⟨xs, ks, b, e1, ⟨kvs, q⟩, rfl, e2, e3⟩
  · exact d_get1 hu I (.inl ⟨kvs, k, e1, e2, e3⟩) ry h
  · cases (show u = Value.ref b from ry)
    obtain ⟨_, hd, dd⟩ := td_dict I e1 q
    exact call_meetsIn PySem.F.slot_dict_get dd.typeIs PySem.F.entry_dict_get (PySem.F.args_dict_get_2 _ _) (meetsH_dict_get (tupleKind (mixKind X.prog X.w)) a b hd) ⟨tupleKind_room_in1 hu, ks, xs, key_sq I e2, dd, h _ _ (I.tok _) (e3.getD rfl)⟩
theorem dg_get2 {Q : Value → Shared → Prop} (hu : A.units + 1 < cLine) (I : Inv X pins σ H s) (g : DG (XK X) H a y o) (ry : RelV y u) (rd : RelV d r) (h : ∀ w' s', Inv X pins σ H s' → RelV (o.getD d) w' → Q w' s') : wpAny (model X.prog X.w) A (call (.builtin "dict.get") [.ref a, u, r]) Q E s := by
  rcases g with ⟨kvs, k, e1, e2, e3⟩ | ⟨xs, ks, b, e1, ⟨kvs, q⟩, rfl, e2, e3⟩
  · exact d_get2 hu I (.inl ⟨kvs, k, e1, e2, e3⟩) ry rd h
  · cases (show u = Value.ref b from ry)
    obtain ⟨_, hd, dd⟩ := td_dict I e1 q
    exact call_meetsIn PySem.F.slot_dict_get dd.typeIs PySem.F.entry_dict_get (PySem.F.args_dict_get_3 _ _ _) (meetsH_dict_get_default (tupleKind (mixKind X.prog X.w)) a b hd r) ⟨tupleKind_room_in1 hu, ks, xs, key_sq I e2, dd, h _ _ (I.tok _) (e3.getD rd)⟩
/-- a store -/
def DP (K : KP) (H : Hp) (a : Addr) (y v : V) (Q : Hp → Prop) : Prop :=
  (∃ kvs k, H a = some (.dK kvs) ∧ y = kV k ∧ kvs.length < sizeLine ∧ Q (upd H a (.dK (putK kvs k v)))) ∨
    ∃ xs ks b, H a = some (TD K a xs) ∧ (∃ kvs, KS K.K H xs kvs) ∧ y = .ref b ∧ SqT K.K H b (ks.map kV) ∧ xs.length < sizeLine ∧ ∀ r, RelV v r → Q (upd H a (TD K a (storedH xs ks b r)))
theorem storedH_len {xs : TE3} {k : List Key} {a : Addr} {v : Value} : (storedH xs k a v).length ≤ xs.length + 1 := by
  unfold storedH
  split <;> simp
theorem dp_setItem {Q : Hp → Prop} {R : Unit → Shared → Prop} (hu : A.units + 1 < cLine) (I : Inv X pins σ H s) (g : DP (XK X) H a y v Q) (ry : RelV y u) (rv : RelV v r) (h : ∀ s' H', Inv X pins σ H' s' → Q H' → R () s') : wpAny (model X.prog X.w) A (setItem (.ref a) u r) R E s := by
  rcases g with ⟨kvs, k, e1, e2, e3, q⟩ | ⟨xs, ks, b, e1, ⟨kvs, qs⟩, rfl, e2, e3, q⟩
  · exact d_setItem hu I (.inl ⟨kvs, k, e1, e2, e3, rfl⟩) ry rv fun s' I' => h s' _ I' q
  · cases (show u = Value.ref b from ry)
    obtain ⟨hz, hd, dd⟩ := td_dict I (.inl e1) qs
    refine wpAny_setItem_heap (hsz := hz) (tupleKind_room_in1 hu) (key_sq I e2) dd fun h' dd' hs => h _ _ ?_ (q r rv)
    obtain ⟨ob, es, ep, hq, h2, h3, h4, _, h5⟩ := dd'
    exact d_write I (by rw [e1]; exact True.intro) hs ⟨ob, hq⟩ (td_new ⟨Nat.le_trans storedH_len e3, hd, ob, es, ep, hq, h2, h3, h4, h5⟩)
end

section
variable {S : SC} {W : Wd} {σ : L2.St}
/-- a dict -/
def dctB (M : Mem) (d : D) : Option (Bool × List (D × D)) := match res M d with
  | .dct t l => some (t, l)
  | _ => none
def lookB (t : Bool) (l : List (D × D)) (k : D) : Option (Option D) := match t with
  | false => (toK k).map (findG toK l)
  | true => (toKT k).map (findG toKT l)
def putB (t : Bool) (l : List (D × D)) (k d : D) : Option (List (D × D)) := match t with
  | false => (toK k).map fun q => putG toK l q k d
  | true => (toKT k).map fun q => putG toKT l q k d
theorem dct_run {K : KP} {v : V} {d : D} {t : Bool} {l : List (D × D)} (k : Ok K W) (r : Rp K W v d) (h : dctB W.M d = some (t, l)) :
    ∃ a, v = .ref a ∧ ((t = false ∧ ∃ kvs, Rd W.H a (.dK kvs) ∧ RpK K W kvs l) ∨ (t = true ∧ ∃ xs kvs, Rd W.H a (TD K a xs) ∧ KS K.K W.H xs kvs ∧ RpT K W kvs l)) := by
  unfold dctB at h
  cases d with
  | ref n =>
    cases r with
    | ref hb =>
      obtain ⟨o, ho, ok⟩ := k.at hb
      simp only [res, ho] at h
      cases o with
      | lst l' => cases h
      | dct t' l' =>
        cases h
        cases t
        · obtain ⟨kvs, h1, h2⟩ := ok
          exact ⟨_, rfl, .inl ⟨rfl, kvs, .inl h1, h2⟩⟩
        · obtain ⟨xs, kvs, h1, h2, h3⟩ := ok
          exact ⟨_, rfl, .inr ⟨rfl, xs, kvs, .inl h1, h2, h3⟩⟩
      | ins C fs => cases h
      | dead => cases h
  | dct t' l' =>
    cases h
    cases r with
    | dK h1 f r => exact ⟨_, rfl, .inl ⟨rfl, _, h1, r⟩⟩
    | dT h1 f q r => exact ⟨_, rfl, .inr ⟨rfl, _, _, h1, q, r⟩⟩
  | _ => cases h
theorem look_run {K : KP} {v y : V} {d k : D} {t : Bool} {l : List (D × D)} {o : Option D} (ok : Ok K W) (r : Rp K W v d) (ry : Rp K W y k) (h : dctB W.M d = some (t, l)) (hl : lookB t l k = some o) :
    ∃ a o', v = .ref a ∧ DG K W.H a y o' ∧ (∀ d, o = some d → ∃ u, o' = some u ∧ Rp K W u d) ∧ (o = none → o' = none) := by
  obtain ⟨a, rfl, h⟩ := dct_run ok r h
  rcases h with ⟨rfl, kvs, h1, h2⟩ | ⟨rfl, xs, kvs, h1, h2, h3⟩
  · obtain ⟨q, hq, ho⟩ := Option.map_eq_some_iff.mp (show (toK k).map (findG toK l) = some o from hl)
    obtain ⟨f1, f2⟩ := findG_k (k := q) h2
    refine ⟨a, valV kvs q, rfl, .inl ⟨kvs, q, h1, (toK_run ry hq).1, rfl⟩, fun d e => f1 d (by rw [ho, e]), fun e => f2 (by rw [ho, e])⟩
  · obtain ⟨q, hq, ho⟩ := Option.map_eq_some_iff.mp (show (toKT k).map (findG toKT l) = some o from hl)
    obtain ⟨f1, f2⟩ := findG_t (k := q) h2 h3
    obtain ⟨_, b, hb, hs⟩ := toKT_run ry hq
    cases o with
    | none => exact ⟨a, none, rfl, .inr ⟨xs, q, b, h1, ⟨kvs, h2⟩, hb, hs, (by rw [f2 ho]; exact True.intro)⟩, (fun d e => by cases e), fun _ => rfl⟩
    | some d =>
      obtain ⟨p, u, e1, e2, e3⟩ := f1 d ho
      refine ⟨a, some u, rfl, .inr ⟨xs, q, b, h1, ⟨kvs, h2⟩, hb, hs, by rw [e1]; exact e2⟩, fun d' e => by cases e; exact ⟨u, rfl, e3⟩, fun e => by cases e⟩
def rIxD' (K : KP) : R2 := fun x y H Q => ∃ a v, x = .ref a ∧ DG K H a y (some v) ∧ Q v H
theorem dg_type {X : Cx} {pins : List (Addr × Obj)} {σ : L2.St} {H : Hp} {s : Shared} {a : Addr} {y : V} {o : Option V} {K : KP} (I : Inv X pins σ H s) (g : DG K H a y o) : s.TypeIs (.ref a) "dict" := by
  rcases g with ⟨kvs, k, e1, _⟩ | ⟨xs, ks, b, e1, _⟩
  · exact (tyG_dict (K := K) pins σ H s (.ref a) (.ref a) I rfl ⟨a, rfl, .inl ⟨kvs, e1⟩⟩).1
  · exact (tyG_dict (K := K) pins σ H s (.ref a) (.ref a) I rfl ⟨a, rfl, .inr ⟨xs, e1⟩⟩).1
theorem sub_tail {prog : Program} {w : World} {A : Around} {E : Value → Shared → Prop} {s : Shared} {value slice : Expr} {T id : String} {o i : Value} {Q : Value → Shared → Prop} (hT : s.TypeIs o T)
    (hl : typeLookup (.type T) "__getitem__" = pure (some (.builtin id))) (hs : subscripted slice false o i = operate [o, i] (getItem o i)) (h : wpAny (model prog w) A (getItem o i) Q E s) : wpAny (model prog w) A (subscriptTail value slice o i) Q E s := by
  unfold subscriptTail
  refine wpAny_bind ?_
  rw [getitemInPython_of_ne hT.not_modules]
  refine wpAny_bind (wpAny_specialOf hT hl ?_)
  have z : wpAny (model prog w) A (subscripted slice false o i) (fun r s₃ => wpAny (model prog w) A (letTemporaryGo value o r >>= fun _ => pure r) Q E s₃) E s := by
    rw [hs]
    exact wpAny_operating (wpAny_mono h (fun r s₃ h₃ => wpAny_bind (wpAny_letTemporaryGo (wpAny_pure h₃))) fun _ _ x => x)
  first
    | exact wpAny_pure (wpAny_bind z)
    | exact wpAny_bind z
    | exact wpAny_pure z
    | exact z
theorem ix_dict {X : Cx} (hu : X.A.units + 1 < cLine) : IxR X (rIxD' (XK X)) := by
  intro value slice pins s σ H x y v u Q I rx ry h hs
  obtain ⟨a, z, rfl, g, q⟩ := h
  cases rx
  exact sub_tail (dg_type I g) PySem.F.slot_dict_getitem.lookup hs (dg_getItem hu I g ry fun w' s' I' r' => ⟨z, H, I', r', q⟩)
def subD' (a b : D) : Mo D := fun M => match res M a with
  | .tup l => match b with
    | .int i => match atD l i with
      | some d => some (.ok d, M)
      | none => none
    | _ => none
  | .lst l => match b with
    | .int i => match atD l i with
      | some d => some (.ok d, M)
      | none => none
    | _ => none
  | .str x => match b with
    | .int i => if x.length ≤ sizeLine then (match atI x.cps.toList i with
      | some c => some (.ok (.str ⟨#[c]⟩), M)
      | none => none) else none
    | _ => none
  | .dct t l => match lookB t l b with
    | some (some d) => some (.ok d, M)
    | _ => none
  | _ => none
def rIxA (K : KP) : R2 := fun x y H Q => rIx K.K x y H Q ∨ rIxD' K x y H Q
theorem ex_sub {a b : Expr} {fa fb : En → Mo D} {pos : Pos} (ha : EX S a fa) (hb : EX S b fb) (hs : PlainIx b := by intros _ _; rfl) : EX S (.Subscript a b pos) (fun ρ => .bnd (fa ρ) fun a => .bnd (fb ρ) fun b => subD' a b) := by
  obtain ⟨ta, a1, a2⟩ := ha.ex
  obtain ⟨tb, b1, b2⟩ := hb.ex
  refine ⟨tOp (rIxA S.K) ta tb, fun X c => pe_ix (by
    have z := (ix_seq (X := X)).or (ix_dict (by have := hu_of' c; omega))
    unfold XK at z
    rw [c.P, c.w, c.K] at z
    exact z) (a1 X c) (b1 X c) hs, sem_op a2 b2 fun W σ x y a b Q k rx ry h => ?_⟩
  unfold subD' at h
  split at h
  · rename_i l e
    split at h
    · rename_i i
      split at h
      · rename_i d hd
        obtain ⟨p, xs, rfl, h1, h2⟩ := res_tup rx e
        obtain ⟨v, h3, h4⟩ := atD_run h2 hd
        exact .inl (.inr (.inl ⟨p, xs, i, v, rfl, rp_int ry, h1, h3, post_ok k h v h4⟩))
      · exact h.elim
    · exact h.elim
  · rename_i l e
    split at h
    · rename_i i
      split at h
      · rename_i d hd
        obtain ⟨p, xs, rfl, h1, h2⟩ := rd_lst k rx e
        obtain ⟨v, h3, h4⟩ := atD_run h2 hd
        exact .inl (.inl ⟨p, xs, i, v, rfl, rp_int ry, h1, h3, post_ok k h v h4⟩)
      · exact h.elim
    · exact h.elim
  · rename_i x e
    split at h
    · rename_i i
      split at h
      · rename_i hl
        split at h
        · rename_i c hc
          exact .inl (.inr (.inr ⟨x, i, c, res_str rx e, rp_int ry, hl, hc, post_ok k h _ (.str _)⟩))
        · exact h.elim
      · exact h.elim
    · exact h.elim
  · rename_i t l e
    split at h
    · rename_i d hd
      obtain ⟨p, o', rfl, g, q1, q2⟩ := look_run k rx ry (show dctB W.M a = some (t, l) by unfold dctB; rw [e]) hd
      obtain ⟨u, rfl, ru⟩ := q1 d rfl
      exact .inr ⟨p, u, rfl, g, post_ok k h u ru⟩
    · exact h.elim
  · exact h.elim

structure PX (S : SC) (e : Option Expr) (f : En → Mo (Option Int)) : Prop where
  ex : ∃ t : TO, (∀ X, InC S X → PO X e t) ∧ ∀ (W : Wd) (σ : L2.St) (ρ : En) (Q : Option Int → Hp → Prop), Ok S.K W → StR S.K W σ ρ → Post S W σ (f ρ W.M) (fun o W' => Q o W'.H) → t σ W.H Q
theorem px_none : PX S none (fun _ => .ret none) := ⟨tNoPart, fun X c => po_none, fun W σ ρ Q k st h => Post.ret k h⟩
def partD (d : D) : Mo (Option Int) := match d with
  | .int i => .ret (some i)
  | _ => .stuck
theorem px_some {e : Expr} {f : En → Mo D} (h : EX S e f) : PX S (some e) (fun ρ => .bnd (f ρ) partD) := by
  obtain ⟨t, h1, h2⟩ := h.ex
  refine ⟨tPart t, fun X c => po_some (h1 X c), fun W σ ρ Q k st h => h2 W σ ρ _ k st (Post.imp (Post.bnd h) fun d W1 l1 k1 q v rv => ?_)⟩
  cases d with
  | int i => exact ⟨i, rp_int rv, Post.ret k1 q⟩
  | _ => exact (show False from q).elim
def cutD (l : List D) (lo hi : Option Int) : List D := (l.drop (HT.sIx l.length 0 lo)).take (HT.sIx l.length l.length hi - HT.sIx l.length 0 lo)
theorem cut_run {K : KP} {xs : List V} {l : List D} {lo hi : Option Int} (r : RpA K W xs l) : RpA K W (cutV xs lo hi) (cutD l lo hi) := by
  unfold cutV cutD
  rw [r.length]
  exact (r.drop _).take _
def sliceD (a : D) (lo hi : Option Int) : Mo D := fun M => match res M a with
  | .tup l => some (.ok (.tup (cutD l lo hi)), M)
  | .lst l => some (.ok (.lst (cutD l lo hi)), M)
  | .str z => if z.length ≤ sizeLine then some (.ok (.str (Txt.slice z lo hi)), M) else none
  | _ => none
theorem cut_all {l : List D} {lo hi : Option Int} (h : HT.sIx l.length 0 lo = 0 ∧ HT.sIx l.length l.length hi = l.length) : cutD l lo hi = l := by
  unfold cutD
  rw [h.1, h.2]
  simp
theorem ex_slice {e : Expr} {lo hi : Option Expr} {fe : En → Mo D} {fl fh : En → Mo (Option Int)} {pos p2 : Pos} (he : EX S e fe) (hl : PX S lo fl) (hh : PX S hi fh) :
    EX S (.Subscript e (.Slice lo hi none p2) pos) (fun ρ => .bnd (fe ρ) fun a => .bnd (fl ρ) fun l => .bnd (fh ρ) fun h => sliceD a l h) := by
  obtain ⟨te, e1, e2⟩ := he.ex
  obtain ⟨tl, l1, l2⟩ := hl.ex
  obtain ⟨th, h1, h2⟩ := hh.ex
  refine ⟨_, fun X c => pe_slice (by have z := (sl_tupA (X := X)).or (sl_list.or C8.sl_txt); rw [c.K] at z; exact z) (e1 X c) (l1 X c) (h1 X c), fun W σ ρ Q k st h => ?_⟩
  refine e2 W σ ρ _ k st (Post.imp (Post.bnd h) fun a W1 q1 k1 h v rv => ?_)
  refine l2 W1 σ ρ _ k1 (st.mono q1) (Post.imp (Post.bnd h) fun l W2 q2 k2 h => ?_)
  refine h2 W2 σ ρ _ k2 ((st.mono q1).mono q2) (Post.imp (Post.bnd h) fun u W3 q3 k3 h => ?_)
  have rv := (rv.mono q2).mono q3
  have h : Post S W3 σ (sliceD a l u W3.M) (PV S Q) := h
  unfold sliceD at h
  split at h
  · rename_i ds e
    obtain ⟨p, xs, rfl, s1, r1⟩ := res_tup rv e
    refine .inl ⟨p, xs, rfl, s1, fun hw => ?_, fun hw q hq => ?_⟩
    · rw [r1.length] at hw
      rw [cut_all hw] at h
      exact post_ok k3 h _ (.tup s1 r1)
    · exact post_layT k3 (cut_run r1) h q hq
  · rename_i ds e
    obtain ⟨p, xs, rfl, s1, r1⟩ := rd_lst k3 rv e
    exact .inr (.inl ⟨p, xs, rfl, s1, post_lay k3 (cut_run r1) h⟩)
  · rename_i z e
    split at h
    · rename_i hl
      exact .inr (.inr ⟨z, res_str rv e, hl, post_ok k3 h _ (.str _)⟩)
    · exact h.elim
  · exact h.elim

def inAll (x y : D) : Mo D := fun M => match dctB M y with
  | some (t, l) => match lookB t l x with
    | some o => some (.ok (.bl o.isSome), M)
    | none => none
  | none => inD x y M
def ninAll (x y : D) : Mo D := fun M => match dctB M y with
  | some (t, l) => match lookB t l x with
    | some o => some (.ok (.bl (!o.isSome)), M)
    | none => none
  | none => ninD x y M
def rInDict (K : KP) (neg : Bool) : R2 := fun x y H Q => ∃ a o, y = .ref a ∧ DG K H a x o ∧ Q (.bl (if neg then !o.isSome else o.isSome)) H
theorem op_inDict {X : Cx} (hu : X.A.units + 1 < cLine) : OpR X (compareOp .In) (rInDict (XK X) false) := by
  intro pins s σ H x y v u Q I rx ry h
  obtain ⟨a, o, rfl, g, q⟩ := h
  cases ry
  exact dg_in hu I g rx fun s' I' => ⟨.bl _, H, I', rfl, q⟩
theorem op_ninDict {X : Cx} (hu : X.A.units + 1 < cLine) : OpR X (compareOp .NotIn) (rInDict (XK X) true) := by
  intro pins s σ H x y v u Q I rx ry h
  obtain ⟨a, o, rfl, g, q⟩ := h
  cases ry
  exact dg_notIn hu I g rx fun s' I' => ⟨.bl _, H, I', rfl, q⟩
theorem isSome_look {K : KP} {o : Option D} {o' : Option V} (q1 : ∀ d, o = some d → ∃ u, o' = some u ∧ Rp K W u d) (q2 : o = none → o' = none) : o'.isSome = o.isSome := by
  cases o with
  | none => rw [q2 rfl]; rfl
  | some d => obtain ⟨u, h, _⟩ := q1 d rfl; rw [h]; rfl
theorem ox_inA : OX S (compareOp .In) inAll := by
  obtain ⟨r, h1, h2⟩ := (ox_in (S := S)).ex
  refine ⟨⟨fun x y H Q => r x y H Q ∨ rInDict S.K false x y H Q, fun X c => (h1 X c).or (by
    have z := op_inDict (X := X) (by have := hu_of' c; omega)
    unfold XK at z
    rw [c.P, c.w, c.K] at z
    exact z), fun W σ x y a b Q k rx ry h => ?_⟩⟩
  unfold inAll at h
  split at h
  · rename_i t l e
    split at h
    · rename_i o ho
      obtain ⟨p, o', rfl, g, q1, q2⟩ := look_run k ry rx e ho
      refine .inr ⟨p, o', rfl, g, ?_⟩
      rw [if_neg Bool.false_ne_true, isSome_look q1 q2]
      exact post_ok k h _ (.bl _)
    · exact h.elim
  · exact .inl (h2 W σ x y a b Q k rx ry h)
theorem ox_ninA : OX S (compareOp .NotIn) ninAll := by
  obtain ⟨r, h1, h2⟩ := (ox_nin (S := S)).ex
  refine ⟨⟨fun x y H Q => r x y H Q ∨ rInDict S.K true x y H Q, fun X c => (h1 X c).or (by
    have z := op_ninDict (X := X) (by have := hu_of' c; omega)
    unfold XK at z
    rw [c.P, c.w, c.K] at z
    exact z), fun W σ x y a b Q k rx ry h => ?_⟩⟩
  unfold ninAll at h
  split at h
  · rename_i t l e
    split at h
    · rename_i o ho
      obtain ⟨p, o', rfl, g, q1, q2⟩ := look_run k ry rx e ho
      refine .inr ⟨p, o', rfl, g, ?_⟩
      rw [if_pos rfl, isSome_look q1 q2]
      exact post_ok k h _ (.bl _)
    · exact h.elim
  · exact .inl (h2 W σ x y a b Q k rx ry h)

def isDc (M : Mem) (d : D) : Bool := (dctB M d).isSome
theorem isD_ty {x : V} {a : D} (k : Ok S.K W) (r : Rp S.K W x a) (h : isDc W.M a = true) : tyD S.K x W.H := by
  unfold isDc at h
  cases e : dctB W.M a with
  | none => rw [e] at h; cases h
  | some p =>
    obtain ⟨t, l⟩ := p
    obtain ⟨q, rfl, h⟩ := dct_run k r e
    rcases h with ⟨_, kvs, h1, _⟩ | ⟨_, xs, kvs, h1, _⟩
    · exact ⟨q, rfl, .inl ⟨kvs, h1⟩⟩
    · exact ⟨q, rfl, .inr ⟨xs, h1⟩⟩
def getD' (a : D) : List D → Mo D
  | [k] => fun M => match dctB M a with
    | some (t, l) => match lookB t l k with
      | some o => some (.ok (o.getD .non), M)
      | none => none
    | none => none
  | [k, d] => fun M => match dctB M a with
    | some (t, l) => match lookB t l k with
      | some o => some (.ok (o.getD d), M)
      | none => none
    | none => none
  | _ => .stuck
def rGetD (K : KP) : V → List V → Hp → VK → Prop := fun x xs H Q => ∃ a y o, x = .ref a ∧ DG K H a y o ∧ ((xs = [y] ∧ Q (o.getD .non) H) ∨ ∃ z, xs = [y, z] ∧ Q (o.getD z) H)
theorem mt_getD {X : Cx} (hu : X.A.units + 1 < cLine) : MtR X "dict.get" (rGetD (XK X)) := by
  intro pins s σ H x xs v us Q I rx rs h
  obtain ⟨a, y, o, rfl, g, h⟩ := h
  cases rx
  rcases h with ⟨rfl, q⟩ | ⟨z, rfl, q⟩
  · obtain ⟨u, rfl, ry⟩ := vals1 rs
    exact dg_get1 hu I g ry fun w' s' I' r' => ⟨_, H, I', r', q⟩
  · obtain ⟨u, u', rfl, ry, rz⟩ := vals2 rs
    exact dg_get2 hu I g ry rz fun w' s' I' r' => ⟨_, H, I', r', q⟩
theorem getD_look {K : KP} {o : Option D} {o' : Option V} {z : V} {d : D} (q1 : ∀ d, o = some d → ∃ u, o' = some u ∧ Rp K W u d) (q2 : o = none → o' = none) (rz : Rp K W z d) : Rp K W (o'.getD z) (o.getD d) := by
  cases o with
  | none => rw [q2 rfl]; exact rz
  | some d => obtain ⟨u, h, r⟩ := q1 d rfl; rw [h]; exact r
theorem mx_get : MX S "dict" "get" isDc getD' := by
  refine ⟨⟨"dict.get", tyD S.K, rGetD S.K, PySem.F.plainAttrs_dict, PySem.F.slot_dict_get, PySem.F.type_dict_get, fun X c => ⟨tyG_dict, ?_⟩, fun W x a k r h => isD_ty k r h, fun W σ x xs a as Q k r rs h => ?_⟩⟩
  · have z := mt_getD (X := X) (by have := hu_of' c; omega)
    unfold XK at z
    rw [c.P, c.w, c.K] at z
    exact z
  · unfold getD' at h
    split at h
    · cases rs with
      | cons ry rn =>
        cases rn
        split at h
        · rename_i t l e
          split at h
          · rename_i o ho
            obtain ⟨p, o', rfl, g, q1, q2⟩ := look_run k r ry e ho
            exact ⟨p, _, o', rfl, g, .inl ⟨rfl, post_ok k h _ (getD_look q1 q2 .non)⟩⟩
          · exact h.elim
        · exact h.elim
    · cases rs with
      | cons ry rn =>
        cases rn with
        | cons rz rn =>
          cases rn
          split at h
          · rename_i t l e
            split at h
            · rename_i o ho
              obtain ⟨p, o', rfl, g, q1, q2⟩ := look_run k r ry e ho
              exact ⟨p, _, o', rfl, g, .inr ⟨_, rfl, post_ok k h _ (getD_look q1 q2 rz)⟩⟩
            · exact h.elim
          · exact h.elim
    · exact (show False from h).elim

def curD (M : Mem) (d : D) : Option (Nat × Bool × List (D × D)) := match d with
  | .ref n => match M[n]? with
    | some (.dct t l) => some (n, t, l)
    | _ => none
  | _ => none
/-- o[i] = v: the memory behind it -/
def storeB (M : Mem) (o i v : D) : Option Mem := match o with
  | .ref n => match M[n]? with
    | some (.lst l) => match i with
      | .int j => match ixN l.length j with
        | some q => some (M.set n (.lst (l.set q v)))
        | none => none
      | _ => none
    | some (.dct t l) => if l.length < sizeLine then (putB t l i v).map fun l' => M.set n (.dct t l') else none
    | _ => none
  | _ => none
def rSetA (K : KP) : TSet := fun o i v H Q => rSetL o i v H Q ∨ ∃ a, o = .ref a ∧ DP K H a i v Q
theorem set_all {X : Cx} (hu : X.A.units + 1 < cLine) : PSet X (rSetA (XK X)) := by
  intro pins s σ H o i v ov iv u Q I ro ri rv h
  rcases h with h | ⟨a, rfl, g⟩
  · exact set_list pins s σ H o i v ov iv u Q I ro ri rv h
  · cases ro
    exact dp_setItem hu I g ri rv fun s' H' I' q => ⟨H', I', q⟩
theorem set_run {x y z : V} {o i v : D} {M' : Mem} {Q : Hp → Prop} (k : Ok S.K W) (rx : Rp S.K W x o) (ry : Rp S.K W y i) (rz : Rp S.K W z v) (h : storeB W.M o i v = some M') (q : ∀ W', Le S.K W W' → Ok S.K W' → W'.M = M' → Q W'.H) : rSetA S.K x y z W.H Q := by
  unfold storeB at h
  split at h
  · rename_i n
    cases rx with
    | @ref _ p hb =>
      split at h
      · rename_i l hm
        obtain ⟨xs, h1, h2⟩ := k.ob _ _ _ hb hm
        split at h
        · rename_i j
          split at h
          · rename_i m hj
            cases h
            have le := le_put (K := S.K) (ho := .lst (xs.set m z)) (o := .lst (l.set m v)) k hb hm (by intro q; cases q)
            refine .inl ⟨p, xs, j, m, rfl, rp_int ry, h1, by rw [h2.length]; exact hj, ?_⟩
            exact q (W.put n p (.lst (xs.set m z)) (.lst (l.set m v))) le (k.put hb hm (by intro q; cases q) ⟨_, upd_same, (h2.set m rz).mono le⟩) rfl
          · cases h
        · cases h
      · rename_i t l hm
        split at h
        · rename_i hlen
          obtain ⟨l', hp, e⟩ := Option.map_eq_some_iff.mp h
          subst e
          cases t
          · obtain ⟨kvs, h1, h2⟩ := k.ob _ _ _ hb hm
            obtain ⟨kk, hk, e⟩ := Option.map_eq_some_iff.mp (show (toK i).map (fun q => putG toK l q i v) = some l' from hp)
            subst e
            obtain ⟨e1, e2⟩ := toK_run ry hk
            have le := le_put (K := S.K) (ho := .dK (putK kvs kk z)) (o := .dct false (putG toK l kk i v)) k hb hm (by intro q; cases q)
            refine .inr ⟨p, rfl, .inl ⟨kvs, kk, h1, e1, by rw [rpk_len h2]; exact hlen, ?_⟩⟩
            subst e2
            exact q (W.put n p (.dK (putK kvs kk z)) (.dct false (putG toK l kk (kD kk) v))) le (k.put hb hm (by intro q; cases q) ⟨_, upd_same, (putG_k h2 rz).mono le⟩) rfl
          · obtain ⟨xs, kvs, h1, h2, h3⟩ := k.ob _ _ _ hb hm
            obtain ⟨kk, hk, e⟩ := Option.map_eq_some_iff.mp (show (toKT i).map (fun q => putG toKT l q i v) = some l' from hp)
            subst e
            obtain ⟨e1, b, e2, e3⟩ := toKT_run ry hk
            refine .inr ⟨p, rfl, .inr ⟨xs, kk, b, h1, ⟨kvs, h2⟩, e2, e3, by rw [h2.length, rpt_len h3]; exact hlen, fun r hr => ?_⟩⟩
            obtain ⟨kvs', g1, g2⟩ := putG_t h2 h3 e3 hr rz
            have le := le_put (K := S.K) (ho := TD S.K p (storedH xs kk b r)) (o := .dct true (putG toKT l kk i v)) k hb hm (by intro q; cases q)
            subst e1
            exact q (W.put n p (TD S.K p (storedH xs kk b r)) (.dct true (putG toKT l kk (ktD kk) v))) le (k.put hb hm (by intro q; cases q) ⟨_, kvs', upd_same, g1.mono le.t, g2.mono le⟩) rfl
        · cases h
      · cases h
  · cases h
def storeM (o i v : D) (ρ : En) : Mo En := fun M => match storeB M o i v with
  | some M' => some (.ok ρ, M')
  | none => none
/-- the target o[i] -/
theorem gx_sub {o i : Expr} {fo fi : En → Mo D} {pos : Pos} (ho : EX S o fo) (hi : EX S i fi)
    (ha : ∀ (env : PySem.Env) v, assign (.Subscript o i pos) env v = (do
      let ov ← holding [v] (eval o env)
      let iv ← holding [v, ov] (eval i env)
      standAt pos
      holding [v, ov, iv] (setItem ov iv v)
      release [v, ov, iv] []) := by intros; rfl) : GX S (.Subscript o i pos) (fun d ρ => .bnd (fo ρ) fun a => .bnd (fi ρ) fun b => storeM a b d ρ) := by
  obtain ⟨to, o1, o2⟩ := ho.ex
  obtain ⟨ti, i1, i2⟩ := hi.ex
  refine ⟨gSub to ti (rSetA S.K), fun X c => pg_sub (o1 X c) (i1 X c) (by
    have z := set_all (X := X) (by have := hu_of' c; omega)
    unfold XK at z
    rw [c.P, c.w, c.K] at z
    exact z) (ha X.env), fun W σ ρ v d Q k st rv h => ?_⟩
  refine o2 W σ ρ _ k st (Post0.post (Post0.imp (Post0.bnd h) fun a W1 l1 k1 h1 x rx => ?_))
  refine i2 W1 σ ρ _ k1 (st.mono l1) (Post0.post (Post0.imp (Post0.bnd h1) fun b W2 l2 k2 h2 y ry => ?_))
  have h2 : Post0 S W2 (storeM a b d ρ W2.M) (PR S Q) := h2
  unfold storeM at h2
  split at h2
  · rename_i M' e
    exact set_run k2 (rx.mono l2) ry ((rv.mono l1).mono l2) e fun W' l' k' m' => h2 W' l' k' m' σ (((st.mono l1).mono l2).mono l')
  · exact h2.elim
end
end DL
namespace DL
open PySem PySem.Spec PyProof.Rows L2

/-- sizes, as the heap keeps them -/
structure SzH (K : KP) (H : Hp) : Prop where
  l : ∀ a xs, SqL K.K H a xs → xs.length ≤ sizeLine
  t : ∀ a xs, SqT K.K H a xs → xs.length ≤ sizeLine
  k : ∀ a kvs, Rd H a (.dK kvs) → kvs.length ≤ sizeLine
  kt : ∀ a xs, Rd H a (TD K a xs) → xs.length ≤ sizeLine
theorem szH {X : Cx} {pins : List (Addr × Obj)} {σ : L2.St} {H : Hp} {s : Shared} (I : Inv X pins σ H s) (t : List Addr) : SzH ⟨X.prog, X.w, X.K, t⟩ H where
  l := fun a xs h => let ⟨_, _, _, q⟩ := I.list h; q
  t := fun a xs h => let ⟨_, _, _, q⟩ := I.tuple h; q
  k := fun a kvs h => (dk_rd I.hok h).1
  kt := fun a xs h => (td_at I h).1
theorem pi_kn {X : Cx} {tg iter : Expr} {wi : TI} (t : List Addr) (h : PI X tg iter wi) : PI X tg iter (fun σ H R => wi σ H fun J H1 => SzH ⟨X.prog, X.w, X.K, t⟩ H1 → R J H1) := by
  refine ⟨fun pins s σ H R I q => ?_⟩
  refine thn (h.run pins s σ H _ I q) fun v s1 z => thn z fun itv s2 ⟨it, fp, tn, J, H', e1, I', T, t0, f, r⟩ => ?_
  exact ⟨it, fp, tn, J, H', e1, I', T, t0, f, r (szH I' t)⟩
section
variable {S : SC}
def SemI0 (S : SC) (wi : TI) (f : En → Mo Itd') : Prop := ∀ (W : Wd) (σ : L2.St) (ρ : En) (R : It → Hp → Prop), Ok S.K W → StR S.K W σ ρ → Post S W σ (f ρ W.M) (fun it W' => ∀ J, (SzH S.K W'.H → ItOk S W' J it) → R J W'.H) → wi σ W.H R
theorem ix_mk {tg iter : Expr} {wi : TI} {f : En → Mo Itd'} (h : ∀ X, InC S X → PI X tg iter wi) (sem : SemI0 S wi f) : IX S tg iter f := by
  refine ⟨fun σ H R => wi σ H fun J H1 => SzH S.K H1 → R J H1, fun X c => ?_, fun W σ ρ R k st q => sem W σ ρ _ k st (Post.imp q fun it W1 l1 k1 z J hJ hs => z J (hJ hs))⟩
  have z := pi_kn (S.cs.map (·.2)) (h X c)
  rw [c.P, c.w, c.K] at z
  exact z

def Itkd (K : KP) (d : Addr) (o : Obj) (xs : TE3) : It :=
  ⟨fun i H => H d = some (.frz o (TD K d xs)) ∧ i < xs.length, fun i H x H' => H' = H ∧ ∃ k q v, xs[i]? = some (k, q, v) ∧ x = .ref q, fun i H => H d = some (.frz o (TD K d xs)) ∧ xs.length ≤ i⟩
theorem td_frz {X : Cx} {pins : List (Addr × Obj)} {σ : L2.St} {H : Hp} {s : Shared} {d : Addr} {o : Obj} {xs : TE3} (I : Inv X pins σ H s) (h : H d = some (.frz o (TD (XK X) d xs))) :
    (d == sysModules) = false ∧ s.heap.get? d = some o ∧ o.ExactDict ∧ ∃ es ep, o.data = .dict es ep ∧ es.size = xs.length ∧ es.toList = xs.map (entryOfKey (tupleKind (mixKind X.prog X.w))) := by
  obtain ⟨h1, h2, ob, es, ep, h3, h4, h5, h6, h7⟩ := td_at I (.inr ⟨o, h⟩)
  have e : s.heap.get? d = some o := (I.hok d _ h).1
  rw [h3] at e
  cases e
  refine ⟨h2, h3, h4, es, ep, h5, ?_, h6⟩
  have := congrArg List.length h6
  simpa using this
theorem turn_keysD {K' : KP} {P : Program} {w : World} {K : PySem.W.Frag} (hK' : K' = ⟨P, w, K, []⟩) {tg : Expr} {d : Addr} {o : Obj} {es : Array DictEntry} {ep : Nat} {xs : TE3} (it : Addr) (hod : o.data = .dict es ep) : Turn P w K tg (Itkd K' d o xs) [it] it (fun i h => h.IsKeyIter it d i xs.length ep) where
  mem := by simp
  obj := fun i h st b hb => by
    have e : b = it := by simpa using hb
    subst e
    obtain ⟨oi, e, c, dd⟩ := st
    exact ⟨oi, e, fun v z => by rw [dd] at z; cases z⟩
  keep := fun i h h' st k => st.at fun oi e => k it (by simp) oi e
  item := by
    intro X hP hw hK hc i pins s σ H E I hf st hg
    subst hP hw hK hK'
    obtain ⟨hd, hi⟩ := hg
    obtain ⟨f0, f1, f2, f3, f4, f5⟩ := hf it (by simp)
    obtain ⟨hs, hgd, hx, es', ep', hdt, hsz, hl⟩ := td_frz I hd
    obtain ⟨rfl, rfl⟩ := dict_ep hod hdt
    obtain ⟨⟨k, q, v⟩, hkv⟩ : ∃ p, xs[i]? = some p := ⟨xs[i], List.getElem?_eq_getElem hi⟩
    have hen : es'[i]? = some (entryOfKey (tupleKind (mixKind X.prog X.w)) (k, q, v)) := by
      rw [← Array.getElem?_toList, hl, List.getElem?_map, hkv]; rfl
    refine next_key_item st hgd hdt hsz hen fun h' st' sb => ?_
    have I1 : Inv X pins σ H { s with heap := h' } := I.turned (t' := s.toks) (fun b ob hb e => (sb.2 b hb).trans e) f0 f1 f3 f4 f5
    obtain ⟨oi, e, c, dd⟩ := id st'
    exact ⟨_, rfl, go_of (s := { s with heap := h' }) e c dd (by decide) ⟨.ref q, H, I1, rfl, ⟨rfl, k, q, v, hkv, rfl⟩, st', fun b hb => (hf b hb).1⟩⟩
  done := by
    intro X hP hw hK hc i pins s σ H E I hf st hg
    subst hP hw hK hK'
    obtain ⟨hd, hi⟩ := hg
    obtain ⟨f0, f1, f2, f3, f4, f5⟩ := hf it (by simp)
    obtain ⟨hs, hgd, hx, es', ep', hdt, hsz, hl⟩ := td_frz I hd
    obtain ⟨rfl, rfl⟩ := dict_ep hod hdt
    exact next_key_end (I.ok.hd hc) st hgd hdt hsz hi fun h' eb => ⟨rfl, I.turned (t' := s.toks) (fun b ob hb e => eb b ob hb e) f0 f1 f3 f4 f5⟩
  self := fun A i s Q E st h => by
    refine wpAny_pyIter_slot st.typeIs F.slot_dict_keyiterator_iter (wpAny_call_entry F.slot_dict_keyiterator_iter st.typeIs F.entry_dict_keyiterator_iter ?_ (F.args_dict_keyiterator_iter_1 _))
    show wpAny _ _ (PySem.ret (.ref it)) _ _ s
    exact wpAny_pure ⟨_, rfl, "dict_keyiterator", _, st.typeIs, F.slot_dict_keyiterator_next.lookup, h⟩
/-- for x in e -/
def iAll (K : KP) (tl : TE) : TI := fun σ H R => tl σ H fun x H1 => (∃ z, x = .str z ∧ R (Its z) H1) ∨ ∃ a, x = .ref a ∧ ((∃ xs, SqL K.K H1 a xs ∧ R (Itl K.K a) H1) ∨ (∃ xs, SqT K.K H1 a xs ∧ R (Itt K.K a) H1) ∨
  (∃ kvs o, H1 a = some (.frz o (.dK kvs)) ∧ R (Itk a o kvs) H1) ∨ (∃ kvs, H1 a = some (.dK kvs) ∧ ∀ o, R (Itk a o kvs) (upd H1 a (.frz o (.dK kvs)))) ∨
  (∃ xs o, H1 a = some (.frz o (TD K a xs)) ∧ R (Itkd K a o xs) H1) ∨ (∃ xs, H1 a = some (TD K a xs) ∧ ∀ o, R (Itkd K a o xs) (upd H1 a (.frz o (TD K a xs)))))
theorem pi_all {X : Cx} {tg l : Expr} {tl : TE} (hl : PE X l tl) : PI X tg l (iAll (XK X) tl) := by
  refine ⟨fun pins s σ H R I h => ?_⟩
  refine thn (hl.run pins s σ H _ I h) fun v s1 ⟨x, H1, I1, r1, q1⟩ => ?_
  rcases q1 with ⟨z, rfl, q⟩ | ⟨a, rfl, q⟩
  · obtain ⟨t, rfl⟩ := r1
    cases ha : z.cps.all (· < 128)
    · exact wpAny_pyIter_wide ha (pi_one (tk := s1.toks) I1 _ (turn_str _ z t "str_iterator" (.inr rfl)) ⟨_, Heap.get?_push_size _ rfl, rfl, rfl⟩ q)
    · exact wpAny_pyIter_ascii ha (pi_one (tk := s1.toks) I1 _ (turn_str _ z t "str_ascii_iterator" (.inl rfl)) ⟨_, Heap.get?_push_size _ rfl, rfl, rfl⟩ q)
  obtain rfl : v = Value.ref a := r1
  have dk : ∀ {H2 : Hp} {o : Obj} {kvs : List (Key × V)}, Inv X pins σ H2 s1 → H2 a = some (.frz o (.dK kvs)) → R (Itk a o kvs) H2 → wpAny (model X.prog X.w) X.A (pyIter (.ref a)) (PIE X pins σ tg R) X.xe s1 := fun I2 hd q => by
    obtain ⟨hs, hgd, hx, es, ep, vs, hdt, hsz, kv, hm⟩ := I2.frzK hd
    refine iter_keys hs hgd hx hdt (pi_one (tk := s1.toks) I2 _ (turn_keys _ hdt) ⟨_, Heap.get?_push_size _ rfl, rfl, ?_⟩ q)
    rw [hsz] <;> rfl
  have dt : ∀ {H2 : Hp} {o : Obj} {xs : TE3}, Inv X pins σ H2 s1 → H2 a = some (.frz o (TD (XK X) a xs)) → R (Itkd (XK X) a o xs) H2 → wpAny (model X.prog X.w) X.A (pyIter (.ref a)) (PIE X pins σ tg R) X.xe s1 := fun I2 hd q => by
    obtain ⟨hs, hgd, hx, es, ep, hdt, hsz, hl⟩ := td_frz I2 hd
    refine iter_keys hs hgd hx hdt (pi_one (tk := s1.toks) I2 _ (turn_keysD rfl _ hdt) ⟨_, Heap.get?_push_size _ rfl, rfl, ?_⟩ q)
    rw [hsz] <;> rfl
  rcases q with ⟨xs, hq, q⟩ | ⟨xs, hq, q⟩ | ⟨kvs, o, hd, q⟩ | ⟨kvs, hd, q⟩ | ⟨kvs, o, hd, q⟩ | ⟨kvs, hd, q⟩
  · obtain ⟨its, rv, p, hz⟩ := I1.list hq
    exact wpAny_pyIter_list p.isList (pi_one (tk := s1.toks) I1 _ (turn_list a _) ⟨_, Heap.get?_push_size _ rfl, rfl, rfl⟩ q)
  · obtain ⟨its, rv, p, hz⟩ := I1.tuple hq
    exact wpAny_pyIter_tuple (show s1.heap.IsTuple a its.toArray from p) (pi_one (tk := s1.toks) I1 _ (turn_tuple a _) ⟨_, Heap.get?_push_size _ rfl, rfl, rfl⟩ q)
  · exact dk I1 hd q
  · obtain ⟨o, I2⟩ := I1.lock hd True.intro
    exact dk I2 upd_same (q o)
  · exact dt I1 hd q
  · obtain ⟨o, I2⟩ := I1.lock hd True.intro
    exact dt I2 upd_same (q o)

def Wd.lock (W : Wd) (a : Addr) (o : Obj) (u : HO) : Wd := { W with H := upd W.H a (.frz o u) }
section
variable {K : KP} {W : Wd} {a : Addr} {o : Obj} {u : HO}
theorem rd_lock {b : Addr} {v : HO} (hu : HO.live u = true) (e : W.H a = some u) (h : Rd W.H b v) : Rd (upd W.H a (.frz o u)) b v := by
  by_cases q : b = a
  · subst q
    rcases h with h | ⟨ob, h⟩
    · rw [e] at h; cases h; exact .inr ⟨o, upd_same⟩
    · rw [e] at h; cases h; cases hu
  · exact rd_upd h q
theorem le_lock (k : Ok K W) (hu : HO.live u = true) (e : W.H a = some u) (f : W.frz a) : Le K W (W.lock a o u) := by
  refine ⟨fun _ _ h => h, fun b xs h => ?_, fun b xs h f => ⟨rd_lock hu e h, f⟩, fun b xs h f => ⟨rd_lock hu e h, f⟩, fun b xs h f => ⟨rd_lock hu e h, f⟩, fun b ob v h => ?_, fun b h => ⟨h, ?_⟩⟩
  · rcases h with h | h
    · exact .inl (rd_lock hu e h)
    · exact .inr h
  · show upd W.H a _ b = _
    rw [upd_ne fun q => by rw [q, e] at h; cases h; cases hu]
    exact h
  · show upd W.H a _ b = _
    exact upd_ne fun q => f.2 (q ▸ h)
theorem Ok.lock (k : Ok K W) (hu : HO.live u = true) (e : W.H a = some u) (f : W.frz a) : Ok K (W.lock a o u) := by
  refine ⟨k.len, k.nd, fun n b v h1 h2 => ?_, k.pn, fun b h => ?_, fun b h => ?_⟩
  · by_cases q : b = a
    · subst q
      have hd := f.1 n h1
      have h2 : W.M[n]? = some v := h2
      rw [hd] at h2
      cases h2
      exact ⟨_, upd_same, by intro x z; cases z⟩
    · exact (k.ob n b v h1 h2).mono (le_lock k hu e f) (upd_ne q)
  · obtain ⟨v, q⟩ := k.ph b h
    exact ⟨v, ((le_lock (o := o) k hu e f).x b h).2.trans q⟩
  · have hne : b ≠ a := tab_live (k.tb b h).1 e fun q z => by rw [z] at hu; cases hu
    exact ⟨tab_upd (k.tb b h).1 hne, (k.tb b h).2⟩
end
theorem rp_kD {K : KP} {W : Wd} (k : Key) : Rp K W (kV k) (kD k) := by
  cases k with
  | inl i => exact .int i
  | inr x => exact .str x
theorem rpa_kD {K : KP} {W : Wd} : ∀ ks : List Key, RpA K W (ks.map kV) (ks.map kD)
  | [] => .nil
  | k :: ks => .cons (rp_kD k) (rpa_kD ks)
theorem rpk_get {K : KP} {W : Wd} : ∀ {kvs : List (Key × V)} {ds : List (D × D)} {i : Nat} {k : Key} {v : V}, RpK K W kvs ds → kvs[i]? = some (k, v) → ∃ d, ds[i]? = some (kD k, d) ∧ Rp K W v d
  | _, _, i, _, _, .nil, h => by simp at h
  | _, _, 0, _, _, .cons r _, h => by simp at h; obtain ⟨rfl, rfl⟩ := h; exact ⟨_, rfl, r⟩
  | _, _, i + 1, _, _, .cons _ t, h => by simpa using rpk_get t (by simpa using h)
theorem rpt_get {K : KP} {W : Wd} : ∀ {kvs : List (List Key × V)} {ds : List (D × D)} {i : Nat} {k : List Key} {v : V}, RpT K W kvs ds → kvs[i]? = some (k, v) → ∃ d, ds[i]? = some (ktD k, d) ∧ Rp K W v d
  | _, _, i, _, _, .nil, h => by simp at h
  | _, _, 0, _, _, .cons r _, h => by simp at h; obtain ⟨rfl, rfl⟩ := h; exact ⟨_, rfl, r⟩
  | _, _, i + 1, _, _, .cons _ t, h => by simpa using rpt_get t (by simpa using h)
theorem ks_get {F : PySem.W.Frag} {H : Hp} : ∀ {xs : TE3} {kvs : List (List Key × V)} {i : Nat} {k : List Key} {q : Addr} {u : Value}, KS F H xs kvs → xs[i]? = some (k, q, u) → ∃ v, kvs[i]? = some (k, v) ∧ SqT F H q (k.map kV) ∧ RelV v u
  | _, _, i, _, _, _, .nil, h => by simp at h
  | _, _, 0, _, _, _, .cons s r _, h => by simp at h; obtain ⟨rfl, rfl, rfl⟩ := h; exact ⟨_, rfl, s, r⟩
  | _, _, i + 1, _, _, _, .cons _ _ t, h => by simpa using ks_get t (by simpa using h)
def itD (d : DL.D) : Mo Itd' := fun M => match d with
  | .str z => if z.cps.size ≤ sizeLine then some (.ok ⟨z.cps.toList.map fun c => .str ⟨#[c]⟩, none⟩, M) else none
  | .tup l => some (.ok ⟨l, none⟩, M)
  | .lst l => some (.ok ⟨l, none⟩, M)
  | .dct _ l => some (.ok ⟨l.map (·.1), none⟩, M)
  | .ref n => match M[n]? with
    | some (.lst l) => some (.ok ⟨l, some (n, .lst l)⟩, M)
    | _ => none
  | _ => none
theorem itok_tup {W : Wd} {a : Addr} {xs : List V} {l : List DL.D} (h : SqT S.F W.H a xs) (r : RpA S.K W xs l) (z : SzH S.K W.H) : ItOk S W (Itt S.F a) ⟨l, none⟩ := by
  refine ⟨by show l.length ≤ _; rw [← r.length]; exact z.t a xs h, fun W1 l1 k1 _ => ⟨fun i hi => ⟨?_, fun x H' hy => ?_⟩, xs, l1.t a xs h, by rw [r.length]; exact Nat.le_refl _⟩⟩
  · obtain ⟨y, hy, _⟩ := r.get (List.getElem?_eq_getElem hi)
    exact ⟨xs, y, l1.t a xs h, hy⟩
  · obtain ⟨rfl, hx⟩ := hy
    obtain ⟨d, hd, rd⟩ := r.get' (hx xs (l1.t a xs h))
    exact ⟨W1, Le.refl _ _, k1, rfl, rfl, d, hd, rd.mono0 l1.zero⟩
theorem itok_lst {W : Wd} {a : Addr} {xs : List V} {l : List DL.D} (h : Rd W.H a (.lst xs)) (f : W.frz a) (r : RpA S.K W xs l) (z : SzH S.K W.H) : ItOk S W (Itl S.F a) ⟨l, none⟩ := by
  refine ⟨by show l.length ≤ _; rw [← r.length]; exact z.l a xs (.inl h), fun W1 l1 k1 _ => ⟨fun i hi => ⟨?_, fun x H' hy => ?_⟩, xs, .inl (l1.l a xs h f).1, by rw [r.length]; exact Nat.le_refl _⟩⟩
  · obtain ⟨y, hy, _⟩ := r.get (List.getElem?_eq_getElem hi)
    exact ⟨xs, y, .inl (l1.l a xs h f).1, hy⟩
  · obtain ⟨rfl, hx⟩ := hy
    obtain ⟨d, hd, rd⟩ := r.get' (hx xs (.inl (l1.l a xs h f).1))
    exact ⟨W1, Le.refl _ _, k1, rfl, rfl, d, hd, rd.mono0 l1.zero⟩
theorem itok_lstK {W : Wd} {a : Addr} {xs : List V} {l : List DL.D} (h : KLst S.F a xs) (r : RpA S.K W xs l) (z : SzH S.K W.H) : ItOk S W (Itl S.F a) ⟨l, none⟩ := by
  refine ⟨by show l.length ≤ _; rw [← r.length]; exact z.l a xs (.inr h), fun W1 l1 k1 _ => ⟨fun i hi => ⟨?_, fun x H' hy => ?_⟩, xs, .inr h, by rw [r.length]; exact Nat.le_refl _⟩⟩
  · obtain ⟨y, hy, _⟩ := r.get (List.getElem?_eq_getElem hi)
    exact ⟨xs, y, .inr h, hy⟩
  · obtain ⟨rfl, hx⟩ := hy
    obtain ⟨d, hd, rd⟩ := r.get' (hx xs (.inr h))
    exact ⟨W1, Le.refl _ _, k1, rfl, rfl, d, hd, rd.mono0 l1.zero⟩
theorem itok_cur {W : Wd} {n : Nat} {a : Addr} {l : List DL.D} (k : Ok S.K W) (hb : W.β[n]? = some a) (hm : W.M[n]? = some (.lst l)) (z : SzH S.K W.H) : ItOk S W (Itl S.F a) ⟨l, some (n, .lst l)⟩ := by
  obtain ⟨xs0, h0, r0⟩ := k.ob _ _ _ hb hm
  refine ⟨by show l.length ≤ _; rw [← r0.length]; exact z.l a xs0 (.inl (.inl h0)), fun W1 l1 k1 g => ?_⟩
  obtain ⟨xs, h, r⟩ := k1.ob _ _ _ (l1.β _ _ hb) g
  refine ⟨fun i hi => ⟨?_, fun x H' hy => ?_⟩, xs, .inl (.inl h), by rw [r.length]; exact Nat.le_refl _⟩
  · obtain ⟨y, hy, _⟩ := r.get (List.getElem?_eq_getElem hi)
    exact ⟨xs, y, .inl (.inl h), hy⟩
  · obtain ⟨rfl, hx⟩ := hy
    obtain ⟨d, hd, rd⟩ := r.get' (hx xs (.inl (.inl h)))
    exact ⟨W1, Le.refl _ _, k1, rfl, rfl, d, hd, rd⟩
theorem itok_dK {W : Wd} {a : Addr} {o : Obj} {kvs : List (Key × V)} {l : List (DL.D × DL.D)} (h : W.H a = some (.frz o (.dK kvs))) (r : RpK S.K W kvs l) (z : SzH S.K W.H) : ItOk S W (Itk a o kvs) ⟨l.map (·.1), none⟩ := by
  have hl := rpk_len r
  refine ⟨by show (l.map (·.1)).length ≤ _; rw [List.length_map, ← hl]; exact z.k a kvs (.inr ⟨o, h⟩), fun W1 l1 k1 _ => ⟨fun i hi => ⟨⟨l1.z _ _ _ h, by simpa [hl] using hi⟩, fun x H' hy => ?_⟩, l1.z _ _ _ h, by simp [hl]⟩⟩
  obtain ⟨rfl, k, v, hkv, rfl⟩ := hy
  obtain ⟨d, hd, _⟩ := rpk_get r hkv
  exact ⟨W1, Le.refl _ _, k1, rfl, rfl, kD k, by rw [List.getElem?_map, hd]; rfl, rp_kD k⟩
theorem itok_dT {W : Wd} {a : Addr} {o : Obj} {xs : TE3} {kvs : List (List Key × V)} {l : List (DL.D × DL.D)} (h : W.H a = some (.frz o (TD S.K a xs))) (q : KS S.F W.H xs kvs) (r : RpT S.K W kvs l) (z : SzH S.K W.H) :
    ItOk S W (Itkd S.K a o xs) ⟨l.map (·.1), none⟩ := by
  have hl := rpt_len r
  have hl2 := q.length
  refine ⟨by show (l.map (·.1)).length ≤ _; rw [List.length_map, ← hl, ← hl2]; exact z.kt a xs (.inr ⟨o, h⟩), fun W1 l1 k1 _ => ⟨fun i hi => ⟨⟨l1.z _ _ _ h, by simpa [hl, hl2] using hi⟩, fun x H' hy => ?_⟩, l1.z _ _ _ h, by simp [hl, hl2]⟩⟩
  obtain ⟨rfl, k, q', v, hkv, rfl⟩ := hy
  obtain ⟨u, hu, hs, _⟩ := ks_get q hkv
  obtain ⟨d, hd, _⟩ := rpt_get r hu
  exact ⟨W1, Le.refl _ _, k1, rfl, rfl, ktD k, by rw [List.getElem?_map, hd]; rfl, .tup (l1.t _ _ hs) (rpa_kD k)⟩
theorem itok_str {W : Wd} {z : Str} (hz : z.cps.size ≤ sizeLine) : ItOk S W (Its z) ⟨z.cps.toList.map fun c => .str ⟨#[c]⟩, none⟩ := by
  refine ⟨by show (List.map _ _).length ≤ _; simpa using hz, fun W1 l1 k1 _ => ⟨fun i hi => ⟨(by show i < z.cps.size; simpa using hi), fun x H' hy => ?_⟩, by simp [Its]⟩⟩
  obtain ⟨rfl, c, hc, rfl⟩ := hy
  exact ⟨W1, Le.refl _ _, k1, rfl, rfl, .str ⟨#[c]⟩, by simp [hc], .str _⟩
theorem ix_all {tg e : Expr} {f : En → Mo DL.D} (he : EX S e f) : IX S tg e (fun ρ => .bnd (f ρ) itD) := by
  obtain ⟨te, e1, e2⟩ := he.ex
  refine ix_mk (wi := iAll S.K te) (fun X c => by have z := pi_all (tg := tg) (e1 X c); unfold XK at z; rw [c.P, c.w, c.K] at z; exact z) fun W σ ρ R k st h => ?_
  refine e2 W σ ρ _ k st (Post.imp (Post.bnd h) fun d W1 l1 k1 q v rv => ?_)
  have q : Post S W1 σ (itD d W1.M) (fun it W' => ∀ J, (SzH S.K W'.H → ItOk S W' J it) → R J W'.H) := q
  unfold itD at q
  cases rv with
  | str z =>
    by_cases hz : z.cps.size ≤ sizeLine
    · simp only [hz, if_true] at q
      exact .inl ⟨z, rfl, Post.ret k1 q _ fun _ => itok_str hz⟩
    · simp only [hz, if_false] at q
      exact q.elim
  | tup hs r => exact .inr ⟨_, rfl, .inr (.inl ⟨_, hs, Post.ret k1 q _ fun z => itok_tup hs r z⟩)⟩
  | lst hs f r => exact .inr ⟨_, rfl, .inl ⟨_, .inl hs, Post.ret k1 q _ fun z => itok_lst hs f r z⟩⟩
  | lstK hs r => exact .inr ⟨_, rfl, .inl ⟨_, .inr hs, Post.ret k1 q _ fun z => itok_lstK hs r z⟩⟩
  | dK hs f r =>
    rcases hs with hs | ⟨o, hs⟩
    · refine .inr ⟨_, rfl, .inr (.inr (.inr (.inl ⟨_, hs, fun o => ?_⟩)))⟩
      have le := le_lock (o := o) k1 (u := .dK _) rfl hs f
      exact q (W1.lock _ o (.dK _)) le (k1.lock rfl hs f) rfl _ fun z => itok_dK upd_same (r.mono le) z
    · exact .inr ⟨_, rfl, .inr (.inr (.inl ⟨_, o, hs, Post.ret k1 q _ fun z => itok_dK hs r z⟩))⟩
  | dT hs f qs r =>
    rcases hs with hs | ⟨o, hs⟩
    · refine .inr ⟨_, rfl, .inr (.inr (.inr (.inr (.inr ⟨_, hs, fun o => ?_⟩))))⟩
      have le := le_lock (o := o) k1 (u := TD S.K _ _) rfl hs f
      exact q (W1.lock _ o (TD S.K _ _)) le (k1.lock rfl hs f) rfl _ fun z => itok_dT upd_same (qs.mono le.t) (r.mono le) z
    · exact .inr ⟨_, rfl, .inr (.inr (.inr (.inr (.inl ⟨_, o, hs, Post.ret k1 q _ fun z => itok_dT hs qs r z⟩))))⟩
  | @ref n a hb =>
    simp only at q
    split at q
    · rename_i l hm
      obtain ⟨xs, h0, r0⟩ := k1.ob _ _ _ hb hm
      exact .inr ⟨_, rfl, .inl ⟨xs, .inl (.inl h0), Post.ret k1 q _ fun z => itok_cur k1 hb hm z⟩⟩
    · exact q.elim
  | _ => exact (show False from q).elim
end
end DL
namespace DL
open PySem PySem.Spec PyProof.Rows L2
section
variable {S : SC}
theorem rp_intv {K : KP} {W : Wd} {v : V} {i : Int} (r : Rp K W v (.int i)) : v = .int i := by cases r; rfl
def rngI (i c : Int) (n : Nat) : List DL.D := (List.range n).map fun k => .int (i + (k : Nat) * c)
def rngB (i : Int) : Bool := decide (-8388608 ≤ i) && decide (i ≤ 8388608)
theorem rngB_le {i : Int} (h : rngB i = true) : -8388608 ≤ i ∧ i ≤ 8388608 := by
  unfold rngB at h
  simpa using h
def rngD1 : List DL.D → Mo Itd' := fun l M => match l with
  | [.int j] => cond (rngB j) (some (.ok ⟨rngI 0 1 j.toNat, none⟩, M)) none
  | _ => none
def rngD2 : List DL.D → Mo Itd' := fun l M => match l with
  | [.int i, .int j] => cond (rngB i && rngB j) (some (.ok ⟨rngI i 1 (j - i).toNat, none⟩, M)) none
  | _ => none
def rngOk (i j c : Int) : Bool := decide (c ≠ 0) && decide (c.natAbs < 1073741824) && Builtin.Range.small i j c && decide (Builtin.Range.rangeSize i j c = ((Builtin.Range.rangeSize i j c).toNat : Int)) && decide ((Builtin.Range.rangeSize i j c).toNat ≤ sizeLine)
def rngD3 : List DL.D → Mo Itd' := fun l M => match l with
  | [.int i, .int j, .int c] => cond (rngOk i j c) (some (.ok ⟨rngI i c (Builtin.Range.rangeSize i j c).toNat, none⟩, M)) none
  | _ => none
theorem rngD1_inv {W : Wd} {σ : L2.St} {ds : List DL.D} {Q : Itd' → Wd → Prop} (h : Post S W σ (rngD1 ds W.M) Q) : ∃ j, ds = [.int j] ∧ rngB j = true ∧ Post S W σ (Mo.ret ⟨rngI 0 1 j.toNat, none⟩ W.M) Q := by
  unfold rngD1 at h
  split at h
  · rename_i j
    cases hb : rngB j with
    | false => rw [hb] at h; exact h.elim
    | true => rw [hb] at h; exact ⟨j, rfl, hb, h⟩
  · exact h.elim
theorem rngD2_inv {W : Wd} {σ : L2.St} {ds : List DL.D} {Q : Itd' → Wd → Prop} (h : Post S W σ (rngD2 ds W.M) Q) : ∃ i j, ds = [.int i, .int j] ∧ rngB i = true ∧ rngB j = true ∧ Post S W σ (Mo.ret ⟨rngI i 1 (j - i).toNat, none⟩ W.M) Q := by
  unfold rngD2 at h
  split at h
  · rename_i i j
    cases hb : rngB i && rngB j with
    | false => rw [hb] at h; exact h.elim
    | true => rw [hb] at h; rw [Bool.and_eq_true] at hb; exact ⟨i, j, rfl, hb.1, hb.2, h⟩
  · exact h.elim
theorem rngD3_inv {W : Wd} {σ : L2.St} {ds : List DL.D} {Q : Itd' → Wd → Prop} (h : Post S W σ (rngD3 ds W.M) Q) : ∃ i j c, ds = [.int i, .int j, .int c] ∧ rngOk i j c = true ∧ Post S W σ (Mo.ret ⟨rngI i c (Builtin.Range.rangeSize i j c).toNat, none⟩ W.M) Q := by
  unfold rngD3 at h
  split at h
  · rename_i i j c
    cases hb : rngOk i j c with
    | false => rw [hb] at h; exact h.elim
    | true => rw [hb] at h; exact ⟨i, j, c, rfl, hb, h⟩
  · exact h.elim
theorem itok_rng {W : Wd} {i c : Int} {n : Nat} (hn : n ≤ sizeLine) : ItOk S W (Itc i c n) ⟨rngI i c n, none⟩ := by
  refine ⟨by show (rngI i c n).length ≤ _; unfold rngI; simpa using hn, fun W1 l1 k1 _ => ⟨fun k hk => ⟨?_, fun x H' hy => ?_⟩, ?_⟩⟩
  · show k < n
    unfold rngI at hk
    simpa using hk
  · have hk : k < n := by unfold rngI at hk; simpa using hk
    obtain ⟨rfl, rfl⟩ := hy
    refine ⟨W1, Le.refl _ _, k1, rfl, rfl, .int (i + (k : Nat) * c), ?_, .int _⟩
    show (rngI i c n)[k]? = _
    unfold rngI
    simp [hk]
  · show n ≤ (rngI i c n).length
    unfold rngI
    simp
theorem itok_rng1 {W : Wd} {i : Int} {n : Nat} (hn : n ≤ sizeLine) : ItOk S W (Itr i n) ⟨rngI i 1 n, none⟩ := by
  obtain ⟨h1, h2⟩ := itok_rng (S := S) (W := W) (i := i) (c := 1) hn
  refine ⟨h1, fun W1 l1 k1 g => ?_⟩
  obtain ⟨h3, h4⟩ := h2 W1 l1 k1 g
  refine ⟨fun k hk => ⟨(h3 k hk).1, fun x H' hy => (h3 k hk).2 x H' ?_⟩, h4⟩
  obtain ⟨e1, e2⟩ := hy
  refine ⟨e1, ?_⟩
  rw [e2, Int.mul_one]
theorem size24 : sizeLine = 16777216 := by decide
theorem rvs1 {K : KP} {W : Wd} {vs : List V} {i : Int} (r : RpA K W vs [.int i]) : vs = [.int i] := by
  cases r with | cons r t => cases t; rw [rp_intv r]
theorem rvs2 {K : KP} {W : Wd} {vs : List V} {i j : Int} (r : RpA K W vs [.int i, .int j]) : vs = [.int i, .int j] := by
  cases r with | cons r t => rw [rp_intv r, rvs1 t]
theorem rvs3 {K : KP} {W : Wd} {vs : List V} {i j c : Int} (r : RpA K W vs [.int i, .int j, .int c]) : vs = [.int i, .int j, .int c] := by
  cases r with | cons r t => rw [rp_intv r, rvs2 t]
theorem ix_range1 {tg a : Expr} {fa : En → Mo (List DL.D)} {p pos : Pos} (hg : Gs S "range") (hm : S.mg "range" = none) (ha : AX S [a] fa) (hs : ∀ env : PySem.Env, starEach [a] env = [(false, eval a env)] := by intro; rfl) :
    IX S tg (.Call (.Name "range" p) [a] [] pos) (fun ρ => .bnd (fa ρ) rngD1) := by
  obtain ⟨ta, a1, a2⟩ := ha.ex
  refine ix_mk (fun X c => pi_range1 (gl_of c hg) (by rw [c.mg]; exact hm) (a1 X c) (hs X.env)) fun W σ ρ R k st h => ?_
  refine a2 W σ ρ _ k st (Post.imp (Post.bnd h) fun ds W1 l1 k1 q vs rvs => ?_)
  obtain ⟨j, rfl, hb, q⟩ := rngD1_inv q
  have := rngB_le hb
  exact ⟨j, rvs1 rvs, by omega, by omega, Post.ret k1 q _ fun _ => itok_rng1 (by rw [size24]; omega)⟩
theorem ix_range2 {tg a b : Expr} {fa : En → Mo (List DL.D)} {p pos : Pos} (hg : Gs S "range") (hm : S.mg "range" = none) (ha : AX S [a, b] fa) (hs : ∀ env : PySem.Env, starEach [a, b] env = [(false, eval a env), (false, eval b env)] := by intro; rfl) (hs2 : ∀ env : PySem.Env, starEach [b] env = [(false, eval b env)] := by intro; rfl) :
    IX S tg (.Call (.Name "range" p) [a, b] [] pos) (fun ρ => .bnd (fa ρ) rngD2) := by
  obtain ⟨ta, a1, a2⟩ := ha.ex
  refine ix_mk (fun X c => pi_range2 (gl_of c hg) (by rw [c.mg]; exact hm) (a1 X c) (hs X.env) (hs2 X.env)) fun W σ ρ R k st h => ?_
  refine a2 W σ ρ _ k st (Post.imp (Post.bnd h) fun ds W1 l1 k1 q vs rvs => ?_)
  obtain ⟨i, j, rfl, hb, hb2, q⟩ := rngD2_inv q
  have := rngB_le hb
  have := rngB_le hb2
  exact ⟨i, j, rvs2 rvs, ⟨by omega, by omega, by omega, by omega⟩, Post.ret k1 q _ fun _ => itok_rng1 (by rw [size24]; omega)⟩
theorem ix_range3 {tg a b c : Expr} {fa : En → Mo (List DL.D)} {p pos : Pos} (hg : Gs S "range") (hm : S.mg "range" = none) (ha : AX S [a, b, c] fa) (hs : ∀ env : PySem.Env, starEach [a, b, c] env = (false, eval a env) :: starEach [b, c] env := by intro; rfl)
    (hpl : ∀ env : PySem.Env, (backTo pos (starEach [b, c] env)).any (·.1) = false := by intro; rfl) :
    IX S tg (.Call (.Name "range" p) [a, b, c] [] pos) (fun ρ => .bnd (fa ρ) rngD3) := by
  obtain ⟨ta, a1, a2⟩ := ha.ex
  refine ix_mk (fun X c => pi_range3 (gl_of c hg) (by rw [c.mg]; exact hm) (a1 X c) (hs X.env) (hpl X.env)) fun W σ ρ R k st h => ?_
  refine a2 W σ ρ _ k st (Post.imp (Post.bnd h) fun ds W1 l1 k1 q vs rvs => ?_)
  obtain ⟨i, j, c, rfl, hb, q⟩ := rngD3_inv q
  unfold rngOk at hb
  simp only [Bool.and_eq_true, decide_eq_true_eq] at hb
  obtain ⟨⟨⟨⟨b1, b2⟩, b3⟩, b4⟩, b5⟩ := hb
  exact ⟨i, j, c, _, rvs3 rvs, ⟨b1, b2, b3, b4⟩, Post.ret k1 q _ fun _ => itok_rng b5⟩

/-- a list that changes no more -/
def FzL (K : KP) (W : Wd) (a : Addr) (xs : List V) : Prop := (Rd W.H a (.lst xs) ∧ W.frz a) ∨ KLst K.K a xs
theorem FzL.z {K : KP} {W W' : Wd} {a : Addr} {xs : List V} (h : FzL K W a xs) (e : LeZ K W W') : FzL K W' a xs := h.imp (fun h => e.l _ _ h.1 h.2) id
theorem FzL.sq {K : KP} {W : Wd} {a : Addr} {xs : List V} (h : FzL K W a xs) : SqL K.K W.H a xs := h.imp (fun h => h.1) id
def revD (d : DL.D) : Mo Itd' := fun M => match d with
  | .tup l => some (.ok ⟨l.reverse, none⟩, M)
  | .lst l => some (.ok ⟨l.reverse, none⟩, M)
  | _ => none
theorem rev_get {α : Type} {l : List α} {i : Nat} (h : i < l.length) : l.reverse[i]? = l[l.length - 1 - i]? := List.getElem?_reverse h
theorem itok_revT {W : Wd} {a : Addr} {xs : List V} {l : List DL.D} (h : SqT S.F W.H a xs) (r : RpA S.K W xs l) (z : SzH S.K W.H) : ItOk S W (RT.ItvT S.F a xs.length) ⟨l.reverse, none⟩ := by
  have hl := r.length
  refine ⟨by show l.reverse.length ≤ _; rw [List.length_reverse, ← hl]; exact z.t a xs h, fun W1 l1 k1 _ => ⟨fun i hi => ?_, by show xs.length ≤ l.reverse.length; rw [List.length_reverse, hl]; exact Nat.le_refl _⟩⟩
  have hi : i < l.length := by simpa using hi
  refine ⟨⟨by omega, ?_⟩, fun x H' hy => ?_⟩
  · obtain ⟨y, hy⟩ : ∃ y, xs[xs.length - 1 - i]? = some y := ⟨xs[xs.length - 1 - i], List.getElem?_eq_getElem (by omega)⟩
    exact ⟨xs, y, l1.t a xs h, hy⟩
  · obtain ⟨rfl, hx⟩ := hy
    obtain ⟨d, hd, rd⟩ := r.get' (hx xs (l1.t a xs h))
    exact ⟨W1, Le.refl _ _, k1, rfl, rfl, d, by show l.reverse[i]? = _; rw [rev_get hi, ← hl]; exact hd, rd.mono0 l1.zero⟩
theorem itok_revL {W : Wd} {a : Addr} {xs : List V} {l : List DL.D} (h : FzL S.K W a xs) (r : RpA S.K W xs l) (z : SzH S.K W.H) : ItOk S W (Itv S.F a xs.length) ⟨l.reverse, none⟩ := by
  have hl := r.length
  refine ⟨by show l.reverse.length ≤ _; rw [List.length_reverse, ← hl]; exact z.l a xs h.sq, fun W1 l1 k1 _ => ⟨fun i hi => ?_, by show xs.length ≤ l.reverse.length; rw [List.length_reverse, hl]; exact Nat.le_refl _⟩⟩
  have hi : i < l.length := by simpa using hi
  refine ⟨⟨by omega, ?_⟩, fun x H' hy => ?_⟩
  · obtain ⟨y, hy⟩ : ∃ y, xs[xs.length - 1 - i]? = some y := ⟨xs[xs.length - 1 - i], List.getElem?_eq_getElem (by omega)⟩
    exact ⟨xs, y, (h.z l1).sq, hy⟩
  · obtain ⟨rfl, hx⟩ := hy
    obtain ⟨d, hd, rd⟩ := r.get' (hx xs (h.z l1).sq)
    exact ⟨W1, Le.refl _ _, k1, rfl, rfl, d, by show l.reverse[i]? = _; rw [rev_get hi, ← hl]; exact hd, rd.mono0 l1.zero⟩
theorem ix_rev {tg e : Expr} {f : En → Mo DL.D} {p pos : Pos} (hg : Gs S "reversed") (hm : S.mg "reversed" = none) (he : EX S e f) (hs : ∀ env : PySem.Env, starEach [e] env = (false, eval e env) :: starEach [] env := by intro; rfl) :
    IX S tg (.Call (.Name "reversed" p) [e] [] pos) (fun ρ => .bnd (f ρ) revD) := by
  obtain ⟨te, e1, e2⟩ := he.ex
  refine ix_mk (fun X c => by have z := RT.pi_revA (p := p) (pos := pos) (tg := tg) (gl_of c hg) (by rw [c.mg]; exact hm) (e1 X c) (hs X.env); rw [c.K] at z; exact z) fun W σ ρ R k st h => ?_
  refine e2 W σ ρ _ k st (Post.imp (Post.bnd h) fun d W1 l1 k1 q v rv => ?_)
  cases rv with
  | tup hs r => exact ⟨_, _, rfl, .inr ⟨hs, Post.ret k1 q _ fun z => itok_revT hs r z⟩⟩
  | lst hs f r => exact ⟨_, _, rfl, .inl ⟨.inl hs, Post.ret k1 q _ fun z => itok_revL (.inl ⟨hs, f⟩) r z⟩⟩
  | lstK hs r => exact ⟨_, _, rfl, .inl ⟨.inr hs, Post.ret k1 q _ fun z => itok_revL (.inr hs) r z⟩⟩
  | _ => exact (show False from q).elim

def zipD : List DL.D → Mo Itd' := fun l M => match l with
  | [.tup a, .tup b] => some (.ok ⟨(a.zip b).map fun p => .tup [p.1, p.2], none⟩, M)
  | [.lst a, .lst b] => some (.ok ⟨(a.zip b).map fun p => .tup [p.1, p.2], none⟩, M)
  | _ => none
theorem lay_pair {W1 : Wd} (k1 : Ok S.K W1) {T : Addr} {x y : V} {d e : DL.D} (hT : W1.H T = none) (rx : Rp S.K W1 x d) (ry : Rp S.K W1 y e) :
    ∃ W2, Le S.K W1 W2 ∧ Ok S.K W2 ∧ W2.M = W1.M ∧ W2.H = upd W1.H T (.tup [x, y]) ∧ Rp S.K W2 (.ref T) (.tup [d, e]) := by
  have le := le_lay (o := .tup [x, y]) k1 hT
  exact ⟨W1.lay T (.tup [x, y]), le, k1.lay hT, rfl, rfl, .tup (.inl (.inl upd_same)) (.cons (rx.mono le) (.cons (ry.mono le) .nil))⟩
theorem zip_get {α β : Type} {a : List α} {b : List β} {i : Nat} {x : α} {y : β} (ha : a[i]? = some x) (hb : b[i]? = some y) : (a.zip b)[i]? = some (x, y) := by
  rw [List.getElem?_zip_eq_some]
  exact ⟨ha, hb⟩
theorem itok_zipT {W : Wd} {a b : Addr} {xs ys : List V} {l m : List DL.D} (h : SqT S.F W.H a xs) (r : RpA S.K W xs l) (h2 : SqT S.F W.H b ys) (r2 : RpA S.K W ys m) (z : SzH S.K W.H) : ItOk S W (RZ.ItzT S.F a b) ⟨(l.zip m).map fun p => .tup [p.1, p.2], none⟩ := by
  have hl := r.length
  have hl2 := r2.length
  refine ⟨by show (List.map _ _).length ≤ _; rw [List.length_map, List.length_zip, ← hl]; exact Nat.le_trans (Nat.min_le_left _ _) (z.t a xs h), fun W1 l1 k1 _ => ⟨fun i hi => ?_, xs, ys, l1.t a xs h, l1.t b ys h2, ?_⟩⟩
  · have hi : i < min l.length m.length := by simpa using hi
    have hi : i < l.length ∧ i < m.length := by omega
    obtain ⟨x, hx⟩ : ∃ y, xs[i]? = some y := ⟨xs[i], List.getElem?_eq_getElem (by omega)⟩
    obtain ⟨y, hy⟩ : ∃ y, ys[i]? = some y := ⟨ys[i], List.getElem?_eq_getElem (by omega)⟩
    refine ⟨⟨xs, ys, x, y, l1.t a xs h, l1.t b ys h2, hx, hy⟩, fun v H' hv => ?_⟩
    obtain ⟨T, x', y', rfl, hT, rfl, hx', hy'⟩ := hv
    obtain ⟨d, hd, rd⟩ := r.get' (hx' xs (l1.t a xs h))
    obtain ⟨e, he, re⟩ := r2.get' (hy' ys (l1.t b ys h2))
    obtain ⟨W2, q1, q2, q3, q4, q5⟩ := lay_pair k1 hT (rd.mono0 l1.zero) (re.mono0 l1.zero)
    exact ⟨W2, q1, q2, q3, q4, .tup [d, e], by rw [List.getElem?_map, zip_get hd he]; rfl, q5⟩
  · show _ ≤ (List.map _ _).length ∨ _ ≤ (List.map _ _).length
    rw [List.length_map, List.length_zip]; omega
theorem itok_zipL {W : Wd} {a b : Addr} {xs ys : List V} {l m : List DL.D} (h : FzL S.K W a xs) (r : RpA S.K W xs l) (h2 : FzL S.K W b ys) (r2 : RpA S.K W ys m) (z : SzH S.K W.H) : ItOk S W (Itz S.F a b) ⟨(l.zip m).map fun p => .tup [p.1, p.2], none⟩ := by
  have hl := r.length
  have hl2 := r2.length
  refine ⟨by show (List.map _ _).length ≤ _; rw [List.length_map, List.length_zip, ← hl]; exact Nat.le_trans (Nat.min_le_left _ _) (z.l a xs h.sq), fun W1 l1 k1 _ => ⟨fun i hi => ?_, xs, ys, (h.z l1).sq, (h2.z l1).sq, ?_⟩⟩
  · have hi : i < min l.length m.length := by simpa using hi
    have hi : i < l.length ∧ i < m.length := by omega
    obtain ⟨x, hx⟩ : ∃ y, xs[i]? = some y := ⟨xs[i], List.getElem?_eq_getElem (by omega)⟩
    obtain ⟨y, hy⟩ : ∃ y, ys[i]? = some y := ⟨ys[i], List.getElem?_eq_getElem (by omega)⟩
    refine ⟨⟨xs, ys, x, y, (h.z l1).sq, (h2.z l1).sq, hx, hy⟩, fun v H' hv => ?_⟩
    obtain ⟨T, x', y', rfl, hT, rfl, hx', hy'⟩ := hv
    obtain ⟨d, hd, rd⟩ := r.get' (hx' xs (h.z l1).sq)
    obtain ⟨e, he, re⟩ := r2.get' (hy' ys (h2.z l1).sq)
    obtain ⟨W2, q1, q2, q3, q4, q5⟩ := lay_pair k1 hT (rd.mono0 l1.zero) (re.mono0 l1.zero)
    exact ⟨W2, q1, q2, q3, q4, .tup [d, e], by rw [List.getElem?_map, zip_get hd he]; rfl, q5⟩
  · show _ ≤ (List.map _ _).length ∨ _ ≤ (List.map _ _).length
    rw [List.length_map, List.length_zip]; omega
theorem ix_zip {e e2 : Expr} {fa : En → Mo (List DL.D)} {p pos tpos : Pos} {elts : List Expr} {kk : Nat} (hg : Gs S "zip") (hm : S.mg "zip" = none) (ha : AX S [e, e2] fa) (hs : ∀ env : PySem.Env, starEach [e, e2] env = (false, eval e env) :: starEach [e2] env := by intro; rfl)
    (hpl : ∀ env : PySem.Env, (backTo pos (starEach [e2] env)).any (·.1) = false := by intro; rfl) :
    IX S (.Tuple elts kk tpos) (.Call (.Name "zip" p) [e, e2] [] pos) (fun ρ => .bnd (fa ρ) zipD) := by
  obtain ⟨ta, a1, a2⟩ := ha.ex
  refine ix_mk (fun X c => by have z := RZ.pi_zipA (p := p) (pos := pos) (elts := elts) (kk := kk) (tpos := tpos) (gl_of c hg) (by rw [c.mg]; exact hm) (a1 X c) (hs X.env) (hpl X.env); rw [c.K] at z; exact z) fun W σ ρ R k st h => ?_
  refine a2 W σ ρ _ k st (Post.imp (Post.bnd h) fun ds W1 l1 k1 q vs rvs => ?_)
  cases rvs with
  | nil => exact (show False from q).elim
  | cons r t => cases t with
    | nil => exact (show False from (by cases r <;> exact q)).elim
    | cons r2 t => cases t with
      | cons _ _ => exact (show False from (by cases r <;> cases r2 <;> exact q)).elim
      | nil =>
        cases r with
        | tup hs r => cases r2 with
          | tup hs2 r2 => exact ⟨_, _, _, _, rfl, .inr ⟨hs, hs2, Post.ret k1 q _ fun z => itok_zipT hs r hs2 r2 z⟩⟩
          | _ => exact (show False from q).elim
        | lst hs f r => cases r2 with
          | lst hs2 f2 r2 => exact ⟨_, _, _, _, rfl, .inl ⟨.inl hs, .inl hs2, Post.ret k1 q _ fun z => itok_zipL (.inl ⟨hs, f⟩) r (.inl ⟨hs2, f2⟩) r2 z⟩⟩
          | lstK hs2 r2 => exact ⟨_, _, _, _, rfl, .inl ⟨.inl hs, .inr hs2, Post.ret k1 q _ fun z => itok_zipL (.inl ⟨hs, f⟩) r (.inr hs2) r2 z⟩⟩
          | _ => exact (show False from q).elim
        | lstK hs r => cases r2 with
          | lst hs2 f2 r2 => exact ⟨_, _, _, _, rfl, .inl ⟨.inr hs, .inl hs2, Post.ret k1 q _ fun z => itok_zipL (.inr hs) r (.inl ⟨hs2, f2⟩) r2 z⟩⟩
          | lstK hs2 r2 => exact ⟨_, _, _, _, rfl, .inl ⟨.inr hs, .inr hs2, Post.ret k1 q _ fun z => itok_zipL (.inr hs) r (.inr hs2) r2 z⟩⟩
          | _ => exact (show False from q).elim
        | _ => exact (show False from (by cases r2 <;> exact q)).elim
end
end DL
namespace DL
open PySem PySem.Spec PyProof.Rows L2

def SC.blk (S : SC) (scope : Scope) : SC := { S with sc := relS scope S.sc, df := false, fnc := fun x => scope.names.lookup x == some .cell, W := fun _ _ _ _ => False }
theorem InC.blk {S : SC} {X : Cx} (c : InC S X) (scope : Scope) (s : Shared) (H : Hp) (C : Addr) (cl : List (Str × Addr)) (fp : List Addr) : InC (S.blk scope) (X.blk s H scope (compEnvC scope cl C X.env) fp) where
  P := c.P
  w := c.w
  K := c.K
  mg := c.mg
  base := c.base
  N := c.N
  sc := by
    show relS scope X.env.scope = relS scope S.sc
    rw [c.sc]
  calm := c.calm
  room := c.room
  takes := fun u s' ⟨a, B, sI, pins, σ, H, cls, d, e, I, nb, up, sky, na, os, ag, w⟩ => w
  own := by intro h; cases h
  stk := by intro h; cases h
  fn := fun x h => h
  code := c.code
def wipeR (ρ : En) : List Nat → En
  | [] => ρ
  | v :: vs => (wipeR ρ vs).set v none
theorem StR.wipe {K : KP} {W : Wd} {σ : L2.St} {ρ : En} (h : StR K W σ ρ) : ∀ vs, StR K W (L2.wipe σ vs) (wipeR ρ vs)
  | [] => h
  | v :: vs => (StR.wipe h vs).del v
theorem wipe_ext {σ τ : L2.St} {vs : List Nat} (hl : σ.length = τ.length) (h : ∀ j, j ∉ vs → σ[j]? = τ[j]?) : wipe σ vs = wipe τ vs := by
  apply List.ext_getElem?
  intro j
  by_cases hj : j ∈ vs
  · have key : ∀ {σ : L2.St} {vs : List Nat}, j ∈ vs → (wipe σ vs)[j]? = if j < σ.length then some none else none := by
      intro σ vs
      induction vs with
      | nil => intro h; cases h
      | cons v vs ih =>
        intro h
        unfold wipe
        by_cases e : v = j
        · subst e
          by_cases hl : v < σ.length
          · rw [if_pos hl, List.getElem?_set_self (by rw [wipe_length]; exact hl)]
          · rw [if_neg hl, List.getElem?_eq_none (by rw [List.length_set, wipe_length]; omega)]
        · rw [List.getElem?_set_ne e]
          rcases List.mem_cons.mp h with q | q
          · exact absurd q.symm e
          · exact ih q
    rw [key hj, key hj, hl]
  · rw [wipe_out hj, wipe_out hj]; exact h j hj
theorem wipe_set {σ : L2.St} {i : Nat} {x : Option V} {vs : List Nat} (hi : i ∈ vs) : wipe (σ.set i x) vs = wipe σ vs :=
  wipe_ext (by simp) fun j hj => List.getElem?_set_ne (by intro e; subst e; exact hj hi)

section
variable {S : SC}
def PRv (S : SC) (vs : List Nat) (σ : L2.St) (Q : L2.St → Hp → Prop) : En → Wd → Prop := fun ρ W' => ∀ σ', StR S.K W' σ' ρ → wipe σ' vs = wipe σ vs → Q σ' W'.H
def SemGv (S : SC) (vs : List Nat) (t : TG) (h : DL.D → En → Mo En) : Prop := ∀ (W : Wd) (σ : L2.St) (ρ : En) (v : V) (d : DL.D) (Q : L2.St → Hp → Prop), Ok S.K W → StR S.K W σ ρ → Rp S.K W v d → Post0 S W (h d ρ W.M) (PRv S vs σ Q) → t v σ W.H Q
def SemGsv (S : SC) (vs : List Nat) (t : TGs) (h : List DL.D → En → Mo En) : Prop := ∀ (W : Wd) (σ : L2.St) (ρ : En) (v : List V) (d : List DL.D) (Q : L2.St → Hp → Prop), Ok S.K W → StR S.K W σ ρ → RpA S.K W v d → Post0 S W (h d ρ W.M) (PRv S vs σ Q) → t v σ W.H Q
structure GV (S : SC) (vs : List Nat) (tg : Expr) (h : DL.D → En → Mo En) : Prop where
  ex : ∃ t : TG, (∀ X, InC S X → PG X tg t) ∧ SemGv S vs t h
structure GVs (S : SC) (vs : List Nat) (tg : List Expr) (h : List DL.D → En → Mo En) : Prop where
  ex : ∃ t : TGs, (∀ X, InC S X → PGs X tg t) ∧ SemGsv S vs t h
theorem gv_name (i : Nat) {vs : List Nat} {x : Str} {pos : Pos} (hN : S.N.Nodup) (hi : S.N[i]? = some x := by rfl) (hv : i ∈ vs := by decide) (hx : S.sc.names.lookup x = some .local ∨ (S.fnc x = true ∧ S.sc.names.lookup x = some .cell) := by first | exact Or.inl rfl | exact Or.inr ⟨rfl, rfl⟩) :
    GV S vs (.Name x pos) (fun d ρ => .ret (ρ.set i (some d))) :=
  ⟨gName i, fun X c => pg_name (by rw [c.N]; exact hN) (by rw [c.N]; exact hi) (loc_fn c hx).1 (loc_fn c hx).2, fun W σ ρ v d Q k st r h => Post0.ret k h _ (st.set r i) (wipe_set hv)⟩
theorem gvs_nil {vs : List Nat} : GVs S vs [] gNilD := by
  refine ⟨gNil, fun X c => pgs_nil, fun W σ ρ v d Q k st r h => ?_⟩
  cases r with
  | nil => exact ⟨rfl, Post0.ret k h σ st rfl⟩
  | cons _ _ => exact h.elim
theorem gvs_cons {vs : List Nat} {e : Expr} {es : List Expr} {h' : DL.D → En → Mo En} {hs : List DL.D → En → Mo En} (h1 : GV S vs e h') (h2 : GVs S vs es hs)
    (ht : ∀ env : PySem.Env, (assignEach (e :: es) env).map (·.2) = assign e env :: (assignEach es env).map (·.2) := by intro; rfl) : GVs S vs (e :: es) (gConsD h' hs) := by
  obtain ⟨t1, a1, a2⟩ := h1.ex
  obtain ⟨t2, b1, b2⟩ := h2.ex
  refine ⟨gCons t1 t2, fun X c => pgs_cons (a1 X c) (b1 X c) (ht X.env), fun W σ ρ v d Q k st r h => ?_⟩
  cases r with
  | nil => exact h.elim
  | @cons v vs' d ds r1 r2 =>
    have h : Post0 S W (Mo.bnd (h' d ρ) (fun ρ1 => hs ds ρ1) W.M) (PRv S vs σ Q) := h
    refine ⟨v, vs', rfl, a2 W σ ρ v d _ k st r1 (Post0.imp (Post0.bnd h) fun ρ1 W1 l1 k1 q σ1 st1 e1 => ?_)⟩
    exact b2 W1 σ1 ρ1 vs' ds Q k1 st1 (r2.mono l1) (Post0.imp q fun ρ2 W2 l2 k2 q2 σ2 st2 e2 => q2 σ2 st2 (e2.trans e1))
theorem gv_tup {vs : List Nat} {es : List Expr} {kk : Nat} {pos : Pos} {n : Nat} {hs : List DL.D → En → Mo En} (h : GVs S vs es hs) (hn : ∀ env : PySem.Env, (assignEach es env).length = n := by intro; rfl) (hst : ∀ env : PySem.Env, (assignEach es env).findIdx? (·.1) = none := by intro; rfl) :
    GV S vs (.Tuple es kk pos) (fun d ρ => .bnd (itemsT n d) fun ds => hs ds ρ) := by
  obtain ⟨t, a1, a2⟩ := h.ex
  refine ⟨gTup S.F n t, fun X c => by have z := pg_tup (k := kk) (pos := pos) c.calm (a1 X c) (hn X.env) (hst X.env); rw [c.K] at z; exact z, fun W σ ρ v d Q k st r h => ?_⟩
  cases r with
  | @tup a xs ds h1 h2 =>
    have h := Post0.bnd h
    have h : Post0 S W ((cond (decide (ds.length = n)) (Mo.ret ds) Mo.stuck) W.M) (fun ds W1 => Post0 S W1 (hs ds ρ W1.M) (PRv S vs σ Q)) := h
    by_cases e : ds.length = n
    · rw [decide_eq_true e] at h
      exact ⟨a, xs, rfl, h1, by rw [h2.length]; exact e, a2 W σ ρ xs ds Q k st h2 (Post0.ret k h)⟩
    · rw [decide_eq_false e] at h
      exact h.elim
  | _ => exact (show False from h).elim

def SemTs (S : SC) (t : TT) (f : En → Mo Bool) : Prop := SemT S t f
structure TXs (S : SC) (ifs : List Expr) (f : En → Mo Bool) : Prop where
  ex : ∃ t : TT, (∀ X, InC S X → PTs X ifs t) ∧ SemT S t f
theorem txs_nil : TXs S [] (fun _ => .ret true) := ⟨tYes, fun X c => pts_nil, fun W σ ρ Q k st h => Post.ret k h⟩
theorem txs_one {c : Expr} {f : En → Mo Bool} (h : TX S c f) : TXs S [c] f := let ⟨t, h1, h2⟩ := h.ex; ⟨t, fun X c => pts_one (h1 X c), h2⟩
end

structure Cst (K : KP) (W1 : Wd) (D : Addr) (W2 : Wd) (acc : List V) (accD : List DL.D) : Prop where
  le : Le K W1 W2
  ok : Ok K W2
  pv : D ∈ W2.pv
  at' : W2.H D = some (.lst acc)
  r : RpA K W2 acc accD
section
variable {K : KP} {W1 W2 W3 : Wd} {D : Addr} {acc : List V} {accD : List DL.D}
theorem Cst.mono (c : Cst K W1 D W2 acc accD) (l : Le K W2 W3) (k : Ok K W3) : Cst K W1 D W3 acc accD :=
  ⟨c.le.trans l, k, (l.x D c.pv).1, (l.x D c.pv).2.trans c.at', c.r.mono l⟩
def Wd.priv (W : Wd) (D : Addr) (o : HO) : Wd := { W with H := upd W.H D o, pv := D :: W.pv }
theorem le_priv {o : HO} (k : Ok K W1) (hD : W1.H D = none) : Le K W1 (W1.priv D o) := by
  have nt : ∀ ys, ¬ Rd W1.H D (.tup ys) := fun ys h => (rd_ne h hD) rfl
  have fz : ∀ a, a ≠ D → W1.frz a → (W1.priv D o).frz a := fun a hne f => ⟨f.1, fun h => by
    rcases List.mem_cons.mp h with e | h
    · exact hne e
    · exact f.2 h⟩
  exact ⟨fun _ _ h => h, fun a xs h => sqt_upd h nt, fun a xs h f => ⟨rd_upd h (rd_ne h hD), fz a (rd_ne h hD) f⟩, fun a xs h f => ⟨rd_upd h (rd_ne h hD), fz a (rd_ne h hD) f⟩, fun a xs h f => ⟨rd_upd h (rd_ne h hD), fz a (rd_ne h hD) f⟩,
    fun a ob u h => upd_z hD h, fun a h => ⟨List.mem_cons_of_mem _ h, upd_ne fun e => k.nopv hD (e ▸ h)⟩⟩
theorem Ok.priv {o : HO} (k : Ok K W1) (hD : W1.H D = none) : Ok K (W1.priv D o) := by
  refine ⟨k.len, k.nd, fun n a u h1 h2 => (k.ob n a u h1 h2).mono (le_priv k hD) (upd_ne fun e => k.notin hD n (e ▸ h1)), fun a h hb => ?_, fun a h => ?_, fun a h => ?_⟩
  · rcases List.mem_cons.mp h with e | h
    · obtain ⟨n, hn⟩ := List.getElem?_of_mem hb
      exact k.notin hD n (e ▸ hn)
    · exact k.pn a h hb
  · rcases List.mem_cons.mp h with e | h
    · exact ⟨o, by rw [e]; exact upd_same⟩
    · obtain ⟨u, e⟩ := k.ph a h
      exact ⟨u, ((le_priv (o := o) k hD).x a h).2.trans e⟩
  · obtain ⟨t1, t2, t3⟩ := k.tb a h
    have hne : a ≠ D := tab_ne t1 fun q z => by rw [hD] at z; cases z
    exact ⟨tab_upd t1 hne, t2, fun hb => (List.mem_cons.mp hb).elim hne t3⟩
theorem Cst.init (k : Ok K W1) (hD : W1.H D = none) : Cst K W1 D (W1.priv D (.lst [])) [] [] := ⟨le_priv k hD, k.priv hD, List.mem_cons_self, upd_same, .nil⟩
def Wd.wr (W : Wd) (D : Addr) (o : HO) : Wd := { W with H := upd W.H D o }
theorem frz_pv (h : W2.frz D) (p : D ∈ W2.pv) : False := h.2 p
theorem le0_wr {o u : HO} (k : Ok K W2) (p : D ∈ W2.pv) (e : W2.H D = some u) (hu : HO.live u = true) : Le0 K W2 (W2.wr D o) := by
  have nt : ∀ ys, ¬ Rd W2.H D (.tup ys) := fun ys h => by
    rcases h with h | ⟨ob, h⟩ <;> rw [e] at h <;> cases h <;> cases hu
  refine ⟨fun _ _ h => h, fun a xs h => sqt_upd h nt, fun a xs h f => ⟨rd_upd h fun q => f.2 (q ▸ p), f⟩, fun a xs h f => ⟨rd_upd h fun q => f.2 (q ▸ p), f⟩, fun a xs h f => ⟨rd_upd h fun q => f.2 (q ▸ p), f⟩, fun a ob v h => ?_⟩
  show upd W2.H D o a = _
  rw [upd_ne fun q => by rw [q, e] at h; cases h; cases hu]
  exact h
theorem le_wr {o u : HO} (l : Le K W1 W2) (k : Ok K W2) (p : D ∈ W2.pv) (np : D ∉ W1.pv) (e : W2.H D = some u) (hu : HO.live u = true) : Le K W1 (W2.wr D o) := by
  have z := le0_wr (o := o) k p e hu
  refine ⟨fun n a h => z.β n a (l.β n a h), fun a xs h => z.t a xs (l.t a xs h), fun a xs h f => let ⟨h1, f1⟩ := l.l a xs h f; z.l a xs h1 f1, fun a xs h f => let ⟨h1, f1⟩ := l.k a xs h f; z.k a xs h1 f1, fun a xs h f => let ⟨h1, f1⟩ := l.kt a xs h f; z.kt a xs h1 f1, fun a ob v h => ?_, fun a h => ⟨(l.x a h).1, ?_⟩⟩
  · have h := l.z a ob v h
    show upd W2.H D o a = _
    rw [upd_ne fun q => by rw [q, e] at h; cases h; cases hu]
    exact h
  · show upd W2.H D o a = _
    rw [upd_ne (by intro q; subst q; exact np h)]
    exact (l.x a h).2
theorem Ok.wr {o u : HO} (k : Ok K W2) (p : D ∈ W2.pv) (e : W2.H D = some u) (hu : HO.live u = true) : Ok K (W2.wr D o) := by
  refine ⟨k.len, k.nd, fun n a v h1 h2 => (k.ob n a v h1 h2).mono0 (le0_wr k p e hu) (upd_ne fun q => k.pn D p (q ▸ List.mem_of_getElem? h1)), k.pn, fun a h => ?_, fun a h => ⟨tab_upd (k.tb a h).1 fun q => (k.tb a h).2.2 (q ▸ p), (k.tb a h).2⟩⟩
  by_cases q : a = D
  · exact ⟨o, by rw [q]; exact upd_same⟩
  · obtain ⟨v, hv⟩ := k.ph a h
    exact ⟨v, (upd_ne q).trans hv⟩
theorem Cst.app (c : Cst K W1 D W2 acc accD) (np : D ∉ W1.pv) {y : V} {d : DL.D} (r : Rp K W2 y d) : Cst K W1 D (W2.wr D (.lst (acc ++ [y]))) (acc ++ [y]) (accD ++ [d]) :=
  have z := le0_wr (o := .lst (acc ++ [y])) c.ok c.pv c.at' rfl
  ⟨le_wr c.le c.ok c.pv np c.at' rfl, c.ok.wr c.pv c.at' rfl, c.pv, upd_same, (c.r.append (.one r)).mono0 z⟩
theorem Cst.appZ (c : Cst K W1 D W2 acc accD) {o : HO} : LeZ K W2 (W2.wr D o) := by
  have z := le0_wr (o := o) c.ok c.pv c.at' rfl
  refine ⟨z.β, z.t, z.l, z.k, z.kt, fun a ob v h => ?_⟩
  show upd W2.H D o a = _
  rw [upd_ne fun q => by rw [q, c.at'] at h; cases h]
  exact h
/-- the private object is private no more -/
def Wd.unpv (W : Wd) (l : List Addr) : Wd := { W with pv := l }
theorem le_unpv (l : Le K W1 W2) : Le K W1 (W2.unpv W1.pv) := by
  have f : ∀ a, W2.frz a → (W2.unpv W1.pv).frz a := fun a f => ⟨f.1, fun h => f.2 (l.x a h).1⟩
  exact ⟨l.β, l.t, fun a xs h q => ⟨(l.l a xs h q).1, f a (l.l a xs h q).2⟩, fun a xs h q => ⟨(l.k a xs h q).1, f a (l.k a xs h q).2⟩, fun a xs h q => ⟨(l.kt a xs h q).1, f a (l.kt a xs h q).2⟩, l.z, fun a h => ⟨h, (l.x a h).2⟩⟩
theorem le0_unpv (l : Le K W1 W2) : Le0 K W2 (W2.unpv W1.pv) := by
  have f : ∀ a, W2.frz a → (W2.unpv W1.pv).frz a := fun a f => ⟨f.1, fun h => f.2 (l.x a h).1⟩
  exact ⟨fun _ _ h => h, fun _ _ h => h, fun a xs h q => ⟨h, f a q⟩, fun a xs h q => ⟨h, f a q⟩, fun a xs h q => ⟨h, f a q⟩, fun _ _ _ h => h⟩
theorem Ok.unpv (k : Ok K W2) (l : Le K W1 W2) : Ok K (W2.unpv W1.pv) :=
  ⟨k.len, k.nd, fun n a o h1 h2 => (k.ob n a o h1 h2).mono0 (le0_unpv l) rfl, fun a h => k.pn a (l.x a h).1, fun a h => k.ph a (l.x a h).1, fun a h => ⟨(k.tb a h).1, (k.tb a h).2.1, fun q => (k.tb a h).2.2 (l.x a q).1⟩⟩
theorem Cst.fin (c : Cst K W1 D W2 acc accD) (np : D ∉ W1.pv) : Le K W1 (W2.unpv W1.pv) ∧ Ok K (W2.unpv W1.pv) ∧ Rp K (W2.unpv W1.pv) (.ref D) (.lst accD) :=
  ⟨le_unpv c.le, c.ok.unpv c.le, .lst (.inl c.at') ⟨fun n h => absurd (List.mem_of_getElem? h) (c.ok.pn D c.pv), np⟩ (c.r.mono0 (le0_unpv c.le))⟩
end

/-- the private object is a changing object now -/
def Wd.pub (W : Wd) (l : List Addr) (D : Addr) (o : O) : Wd := { β := W.β ++ [D], M := W.M ++ [o], H := W.H, pv := l }
section
variable {K : KP} {W1 W2 : Wd} {D : Addr}
theorem pub_frz (k : Ok K W2) (l : Le K W1 W2) (p : D ∈ W2.pv) {o : O} : ∀ a, W2.frz a → (W2.pub W1.pv D o).frz a := fun a f => by
  refine ⟨fun n h => ?_, fun h => f.2 (l.x a h).1⟩
  have h : (W2.β ++ [D])[n]? = some a := h
  show (W2.M ++ [o])[n]? = some .dead
  rw [getElem?_snoc] at h ⊢
  rw [← k.len]
  by_cases hn : n < W2.β.length
  · rw [if_pos hn] at h ⊢; exact f.1 n h
  · rw [if_neg hn] at h
    by_cases e : n = W2.β.length
    · rw [if_pos e] at h; cases h; exact absurd p f.2
    · rw [if_neg e] at h; cases h
theorem le0_pub (k : Ok K W2) (l : Le K W1 W2) (p : D ∈ W2.pv) {o : O} : Le0 K W2 (W2.pub W1.pv D o) := by
  have f := pub_frz (o := o) k l p
  refine ⟨fun n a h => ?_, fun _ _ h => h, fun a xs h q => ⟨h, f a q⟩, fun a xs h q => ⟨h, f a q⟩, fun a xs h q => ⟨h, f a q⟩, fun _ _ _ h => h⟩
  show (W2.β ++ [D])[n]? = some a
  rw [getElem?_snoc, if_pos (List.getElem?_eq_some_iff.mp h).1]; exact h
theorem le_pub (k : Ok K W2) (l : Le K W1 W2) (p : D ∈ W2.pv) {o : O} : Le K W1 (W2.pub W1.pv D o) := by
  have z := le0_pub (o := o) k l p
  exact ⟨fun n a h => z.β n a (l.β n a h), fun a xs h => l.t a xs h, fun a xs h f => let ⟨h1, f1⟩ := l.l a xs h f; z.l a xs h1 f1, fun a xs h f => let ⟨h1, f1⟩ := l.k a xs h f; z.k a xs h1 f1, fun a xs h f => let ⟨h1, f1⟩ := l.kt a xs h f; z.kt a xs h1 f1, l.z, fun a h => ⟨h, (l.x a h).2⟩⟩
theorem Ok.pub (k : Ok K W2) (l : Le K W1 W2) (p : D ∈ W2.pv) (np : D ∉ W1.pv) {o : O} (new : OOk K (W2.pub W1.pv D o) D o) : Ok K (W2.pub W1.pv D o) := by
  refine ⟨by show (W2.β ++ [D]).length = (W2.M ++ [o]).length; simp [k.len], ?_, fun n a u h1 h2 => ?_, fun a h hb => ?_, fun a h => k.ph a (l.x a h).1, fun a h => ⟨(k.tb a h).1, fun hb => (List.mem_append.mp hb).elim (k.tb a h).2.1 fun hb => (k.tb a h).2.2 (List.mem_singleton.mp hb ▸ p), fun q => (k.tb a h).2.2 (l.x a q).1⟩⟩
  · show (W2.β ++ [D]).Nodup
    rw [List.nodup_append]
    refine ⟨k.nd, by simp, fun a ha b hb => ?_⟩
    simp at hb
    subst hb
    exact fun e => k.pn b p (e ▸ ha)
  · have h1 : (W2.β ++ [D])[n]? = some a := h1
    have h2 : (W2.M ++ [o])[n]? = some u := h2
    rw [getElem?_snoc] at h1 h2
    rw [← k.len] at h2
    by_cases hn : n < W2.β.length
    · rw [if_pos hn] at h1 h2
      exact (k.ob n a u h1 h2).mono0 (le0_pub k l p) rfl
    · rw [if_neg hn] at h1 h2
      by_cases e : n = W2.β.length
      · rw [if_pos e] at h1 h2; cases h1; cases h2; exact new
      · rw [if_neg e] at h1; cases h1
  · rcases List.mem_append.mp (show a ∈ W2.β ++ [D] from hb) with hb | hb
    · exact k.pn a (l.x a h).1 hb
    · rw [List.mem_singleton.mp hb] at h
      exact np h
/-- the value and the memory of a finished list -/
def finV (md : Bool) (l : List DL.D) (M : Mem) : DL.D := cond md (.ref M.length) (.lst l)
def finMm (md : Bool) (l : List DL.D) (M : Mem) : Mem := cond md (M ++ [.lst l]) M
theorem Cst.finish (md : Bool) {acc : List V} {accD : List DL.D} (c : Cst K W1 D W2 acc accD) (np : D ∉ W1.pv) : ∃ W3 : Wd, W3.H = W2.H ∧ W3.M = finMm md accD W2.M ∧ Le K W1 W3 ∧ Ok K W3 ∧ Rp K W3 (.ref D) (finV md accD W2.M) := by
  cases md with
  | false =>
    obtain ⟨h1, h2, h3⟩ := c.fin np
    exact ⟨W2.unpv W1.pv, rfl, rfl, h1, h2, h3⟩
  | true =>
    have z := le0_pub (o := .lst accD) c.ok c.le c.pv
    refine ⟨W2.pub W1.pv D (.lst accD), rfl, rfl, le_pub c.ok c.le c.pv, c.ok.pub c.le c.pv np ⟨acc, c.at', c.r.mono0 z⟩, .ref ?_⟩
    show (W2.β ++ [D])[W2.M.length]? = some D
    rw [← c.ok.len]
    simp
end

theorem bnd_ok {α β : Type} {m : Mo α} {f : α → Mo β} {M M2 : Mem} {b : β} (h : Mo.bnd m f M = some (.ok b, M2)) : ∃ a M1, m M = some (.ok a, M1) ∧ f a M1 = some (.ok b, M2) := by
  unfold Mo.bnd at h
  cases e : m M with
  | none => rw [e] at h; cases h
  | some p =>
    rw [e] at h
    obtain ⟨r, M1⟩ := p
    cases r with
    | error x => cases h
    | ok a => exact ⟨a, M1, rfl, h⟩
theorem bnd_of {α β : Type} {m : Mo α} {f : α → Mo β} {M M1 : Mem} {a : α} (h : m M = some (.ok a, M1)) : Mo.bnd m f M = f a M1 := by
  unfold Mo.bnd; rw [h]
theorem ret_ok {α : Type} {a b : α} {M M2 : Mem} (h : Mo.ret a M = some (.ok b, M2)) : a = b ∧ M = M2 := by
  cases h; exact ⟨rfl, rfl⟩
theorem guard_ok {α : Type} {g : Option (Nat × O)} {k : Mem → Option α} {M : Mem} {r : α} (h : guardM g k M = some r) : gdOk g M ∧ k M = some r := by
  unfold guardM at h
  split at h
  · rename_i q; exact ⟨q, h⟩
  · cases h
def Mo.ne {α : Type} (m : Mo α) : Mo α := fun M => match m M with
  | some (.ok a, M1) => some (.ok a, M1)
  | _ => none
theorem ne_ok {α : Type} {m : Mo α} {M M1 : Mem} {a : α} (h : m M = some (.ok a, M1)) : m.ne M = some (.ok a, M1) := by
  unfold Mo.ne; rw [h]
noncomputable def compL {β : Type} (g : Option (Nat × O)) (turn : DL.D → Mo (List β)) : List DL.D → Mo (List β)
  | [] => guardM g (Mo.ret [])
  | d :: r => guardM g (Mo.bnd (turn d) fun ys => Mo.bnd (compL g turn r) fun t => Mo.ret (ys ++ t))
def turn1 {β : Type} (ρ : En) (h : DL.D → En → Mo En) (c : En → Mo Bool) (e : En → Mo (List β)) (d : DL.D) : Mo (List β) := .bnd (h d ρ) fun ρ1 => .bnd (c ρ1) fun b => cond b (e ρ1) (.ret [])
def one' (e : En → Mo DL.D) (ρ : En) : Mo (List DL.D) := .bnd (e ρ) fun y => .ret [y]
theorem compL_cons {β : Type} {g : Option (Nat × O)} {turn : DL.D → Mo (List β)} {d : DL.D} {r : List DL.D} {l : List β} {M M' : Mem} (h : compL g turn (d :: r) M = some (.ok l, M')) : gdOk g M ∧ ∃ ys M1 t, turn d M = some (.ok ys, M1) ∧ compL g turn r M1 = some (.ok t, M') ∧ l = ys ++ t := by
  obtain ⟨h1, h2⟩ := guard_ok h
  obtain ⟨ys, M1, e1, h3⟩ := bnd_ok h2
  obtain ⟨t, M2, e2, h4⟩ := bnd_ok h3
  obtain ⟨rfl, rfl⟩ := ret_ok h4
  exact ⟨h1, ys, M1, t, e1, e2, rfl⟩
theorem compL_nil {β : Type} {g : Option (Nat × O)} {turn : DL.D → Mo (List β)} {l : List β} {M M' : Mem} (h : compL g turn [] M = some (.ok l, M')) : gdOk g M ∧ l = [] ∧ M' = M := by
  obtain ⟨h1, h2⟩ := guard_ok h
  obtain ⟨rfl, rfl⟩ := ret_ok h2
  exact ⟨h1, rfl, rfl⟩
theorem turn1_ok {β : Type} {ρ : En} {h : DL.D → En → Mo En} {c : En → Mo Bool} {e : En → Mo (List β)} {d : DL.D} {ys : List β} {M M' : Mem} (q : turn1 ρ h c e d M = some (.ok ys, M')) :
    ∃ ρ1 M1 b M2, h d ρ M = some (.ok ρ1, M1) ∧ c ρ1 M1 = some (.ok b, M2) ∧ ((b = true ∧ e ρ1 M2 = some (.ok ys, M')) ∨ (b = false ∧ ys = [] ∧ M' = M2)) := by
  obtain ⟨ρ1, M1, e1, q⟩ := bnd_ok q
  obtain ⟨b, M2, e2, q⟩ := bnd_ok q
  refine ⟨ρ1, M1, b, M2, e1, e2, ?_⟩
  cases b with
  | true => exact .inl ⟨rfl, q⟩
  | false =>
    obtain ⟨rfl, rfl⟩ := ret_ok q
    exact .inr ⟨rfl, rfl, rfl⟩
section
variable {S : SC} {α : Type}
theorem post_of {W : Wd} {σ : L2.St} {m : Mo α} {a : α} {M1 : Mem} {Q : α → Wd → Prop} (h : m W.M = some (.ok a, M1)) (q : ∀ W', Le S.K W W' → Ok S.K W' → W'.M = M1 → Q a W') : Post S W σ (m W.M) Q := by
  rw [h]; exact q
theorem post0_of {W : Wd} {m : Mo α} {a : α} {M1 : Mem} {Q : α → Wd → Prop} (h : m W.M = some (.ok a, M1)) (q : ∀ W', Le S.K W W' → Ok S.K W' → W'.M = M1 → Q a W') : Post0 S W (m W.M) Q := by
  rw [h]; exact q
theorem compL_len {β : Type} {g : Option (Nat × O)} {turn : DL.D → Mo (List β)} (ht : ∀ d ys M M', turn d M = some (.ok ys, M') → ys.length ≤ 1) : ∀ (r : List DL.D) (l : List β) (M M' : Mem), compL g turn r M = some (.ok l, M') → l.length ≤ r.length
  | [], l, M, M', h => by rw [(compL_nil h).2.1]; exact Nat.le_refl _
  | d :: r, l, M, M', h => by
    obtain ⟨_, ys, M1, t, e1, e2, rfl⟩ := compL_cons h
    have := compL_len ht r t M1 M' e2
    have := ht d ys M M1 e1
    simp only [List.length_append, List.length_cons]; omega
/-- the comprehension's value, from its items -/
def finD (md : Bool) (l : List DL.D) : Mo DL.D := fun M => some (.ok (finV md l M), finMm md l M)
noncomputable def lcD (md : Bool) (ok : List DL.D → Bool) (m : Mo (List DL.D)) : Mo DL.D := .bnd m.ne fun l => cond (ok l) (finD md l) .stuck
def lenB' (l : List DL.D) : Bool := decide (l.length ≤ sizeLine)
def yesB (_ : List DL.D) : Bool := true
theorem lcD_inv {W : Wd} {σ : L2.St} {md : Bool} {ok : List DL.D → Bool} {m : Mo (List DL.D)} {Q : VK} (h : Post S W σ (lcD md ok m W.M) (PV S Q)) :
    ∃ l M', m W.M = some (.ok l, M') ∧ ok l = true ∧ ∀ W', Le S.K W W' → Ok S.K W' → W'.M = finMm md l M' → PV S Q (finV md l M') W' := by
  unfold lcD Mo.bnd Mo.ne at h
  cases e : m W.M with
  | none => simp only [e] at h; exact h.elim
  | some p =>
    obtain ⟨r, M1⟩ := p
    cases r with
    | error x => simp only [e] at h; exact h.elim
    | ok l =>
      simp only [e] at h
      cases hb : ok l with
      | false => rw [hb] at h; exact h.elim
      | true => rw [hb] at h; exact ⟨l, M1, rfl, hb, h⟩
/-- a comprehension, as a value and stored -/
structure LX (S : SC) (e : Expr) (f : En → Mo DL.D) : Prop where
  ex : ∃ t : TE, SemE S t f ∧ (∀ X, InC S X → PE X e t) ∧ ∀ X, InC S X → ∀ (i : Nat) (y : Str) (py spos : Pos), X.N[i]? = some y → X.env.scope.names.lookup y = some .local → swapsWith e (some (.Name y py)) spos.line X.env = pure true → PS X (.Assign [.Name y py] e spos) (tAsg t (gName i))
theorem ex_lx {e : Expr} {f : En → Mo DL.D} (h : LX S e f) : EX S e f := let ⟨t, h1, h2, _⟩ := h.ex; ⟨t, h2, h1⟩
/-- x = [..] on one line -/
theorem sx_setC (i : Nat) {x : Str} {e : Expr} {f : En → Mo DL.D} {pos pos' : Pos} (he : LX S e f) (hi : S.N[i]? = some x := by rfl) (hx : S.sc.names.lookup x = some .local := by rfl)
    (hs : ∀ X, InC S X → swapsWith e (some (.Name x pos')) pos.line X.env = pure true) : SX S (.Assign [.Name x pos'] e pos) (fun ρ => sE (f ρ) ρ fun d M => some (.nx (ρ.set i (some d)), M)) := by
  obtain ⟨te, e2, _, e1⟩ := he.ex
  refine ⟨tAsg te (gName i), fun X c => e1 X c i x pos' pos (by rw [c.N]; exact hi) (by rw [c.sc]; exact hx) (hs X c), fun W σ ρ D k st h => ?_⟩
  exact e2 W σ ρ _ k st (Post.imp (PostS.sE st h) fun a W1 l1 k1 q v rv => PostS.at k1 q _ ((st.mono l1).set rv i))
/-- whether the store of a comprehension comes first -/
def swB (S : SC) (scope : Scope) (y : Str) (l l' : Nat) : Bool := (l == l') && !(scope.names.any fun (n, k) => n == y && (k == .local || k == .cell))
theorem sw_lc {X : Cx} {elt : Expr} {gs : List Comprehension} {scope : Scope} {pos py : Pos} {y : Str} {l : Nat} (c : InC S X) (hk : S.sc.kind = .function) (hy : S.sc.names.lookup y = some .local) (h : swB S scope y py.line pos.line = true) : swapsWith (.ListComp elt gs scope pos) (some (.Name y py)) l X.env = pure true := by
  unfold swB at h
  rw [Bool.and_eq_true] at h
  exact sw_true (by rw [c.sc]; exact hk) (by rw [c.sc]; exact hy) h.1 (by simpa using h.2)
theorem sw_lcF {X : Cx} {elt : Expr} {gs : List Comprehension} {scope : Scope} {pos py : Pos} {y : Str} {l : Nat} (c : InC S X) (h : swB S scope y py.line pos.line = false) : swapsWith (.ListComp elt gs scope pos) (some (.Name y py)) l X.env = pure false := by
  unfold swB at h
  unfold swapsWith
  show pure (_ && _ && _ && _) = _
  rw [Bool.and_assoc]
  show pure (_ && ((py.line == pos.line) && !(scope.names.any fun (n, k) => n == y && (k == .local || k == .cell)))) = _
  rw [h, Bool.and_false]
theorem sw_lcC {X : Cx} {elt : Expr} {gs : List Comprehension} {scope : Scope} {pos py : Pos} {y : Str} {l : Nat} (c : InC S X) (h : S.sc.names.lookup y = some .cell) : swapsWith (.ListComp elt gs scope pos) (some (.Name y py)) l X.env = pure false := by
  have ky : X.env.kindOf y = some .cell := by
    show X.env.scope.names.lookup y = _
    rw [c.sc]; exact h
  unfold swapsWith
  show pure (_ && (X.env.kindOf y == some NameKind.local) && _ && _) = _
  rw [ky]
  have : ((some NameKind.cell : Option NameKind) == some NameKind.local) = false := by decide
  rw [this, Bool.and_false, Bool.false_and, Bool.false_and]
theorem lx_lc1 (md : Bool) {elt tg iter : Expr} {ifs : List Expr} {scope : Scope} (own : List (Str × Nat)) {pos : Pos} {f : En → Mo Itd'} {h : DL.D → En → Mo En} {c : En → Mo Bool} {e : En → Mo DL.D} (hN : S.N.Nodup) (ok : BlkOk S.N S.sc scope own)
    (hi : IX S tg iter f) (hg : GV (S.blk scope) (own.map (·.2)) tg h) (ht : TXs (S.blk scope) ifs c) (he : EX (S.blk scope) elt e) (hs : ∀ (env : PySem.Env) x, foldedSetIterable iter env x = pure x := by intro _ _; rfl) :
    LX S (.ListComp elt [⟨tg, iter, ifs, 0⟩] scope pos) (fun ρ => .bnd (f ρ) fun it => lcD md yesB (compL it.gd (turn1 (wipeR ρ (own.map (·.2))) h c (one' e)) it.items)) := by
  obtain ⟨wi, i1, i2⟩ := hi.ex
  obtain ⟨g, g1, g2⟩ := hg.ex
  obtain ⟨tt, t1, t2⟩ := ht.ex
  obtain ⟨te, e1, e2⟩ := he.ex
  refine ⟨tLc wi g tt te (own.map (·.2)), fun W σ ρ Q k st hh => ?_, fun X c => pe_lc c.calm (by rw [c.N]; exact hN) (i1 X c) (by rw [c.N, c.sc]; exact ok) (fun s H C cl fp => g1 _ (c.blk scope s H C cl fp)) (fun s H C cl fp => t1 _ (c.blk scope s H C cl fp)) (fun s H C cl fp => e1 _ (c.blk scope s H C cl fp)) (hs X.env),
    fun X c i y py spos hy hyl hsw => ps_setLc c.calm (by rw [c.N]; exact hN) hy hyl hsw (i1 X c) (by rw [c.N, c.sc]; exact ok) (fun s H C cl fp => g1 _ (c.blk scope s H C cl fp)) (fun s H C cl fp => t1 _ (c.blk scope s H C cl fp)) (fun s H C cl fp => e1 _ (c.blk scope s H C cl fp)) (hs X.env)⟩
  refine i2 W σ ρ _ k st (Post.imp (Post.bnd hh) fun it W1 l1 k1 q J hJ => ?_)
  intro D hD
  obtain ⟨l, M', hl, _, q⟩ := lcD_inv q
  have np := k1.nopv hD
  have hsz : l.length ≤ sizeLine := Nat.le_trans (compL_len (fun d ys M M' z => by
    obtain ⟨ρ1, M1, b, M2, _, _, z⟩ := turn1_ok z
    rcases z with ⟨_, z⟩ | ⟨_, rfl, _⟩
    · obtain ⟨y, M3, _, z⟩ := bnd_ok z
      obtain ⟨rfl, _⟩ := ret_ok z
      exact Nat.le_refl _
    · exact Nat.zero_le _) _ _ _ _ hl) hJ.1
  refine ⟨fun i m H' => m = it.items.length - i ∧ i ≤ it.items.length ∧ ∃ W2 acc accD t, Cst S.K W1 D W2 acc accD ∧ W2.H = H' ∧ compL it.gd (turn1 (wipeR ρ (own.map (·.2))) h c (one' e)) (it.items.drop i) W2.M = some (.ok t, M') ∧ accD ++ t = l,
    ⟨_, rfl, Nat.zero_le _, W1.priv D (.lst []), [], [], l, Cst.init k1 hD, rfl, hl, rfl⟩, ?_⟩
  rintro i m H' ⟨rfl, hi, W2, acc, accD, t, c2, rfl, hc, el⟩
  by_cases hlt : i < it.items.length
  · rw [List.drop_eq_getElem_cons hlt] at hc
    obtain ⟨hgd, ys, M3, t', hturn, hrest, rfl⟩ := compL_cons hc
    obtain ⟨go, yl⟩ := (hJ.2 W2 c2.le.toZ c2.ok hgd).1 i hlt
    refine .inr ⟨go, fun H3 => ∃ W3 acc' accD', Cst S.K W1 D W3 acc' accD' ∧ W3.H = H3 ∧ W3.M = M3 ∧ accD' = accD ++ ys, ?_, ?_⟩
    · rintro H3 ⟨W3, acc', accD', a1, a2, a3, a4⟩
      exact ⟨_, by omega, rfl, hlt, W3, acc', accD', t', a1, a2, by rw [a3]; exact hrest, by rw [a4, List.append_assoc]; exact el⟩
    · intro x H' hy
      obtain ⟨W3, l3, k3, m3, rfl, d, hd, rd⟩ := yl x H' hy
      have hd' : d = it.items[i] := by
        rw [List.getElem?_eq_getElem hlt] at hd
        exact (Option.some.inj hd).symm
      subst hd'
      obtain ⟨ρ1, M4, b, M5, q1, q2, q3⟩ := turn1_ok hturn
      rw [← m3] at q1
      have c3 := c2.mono l3 k3
      have st3 : StR S.K W3 (wipe σ (own.map (·.2))) (wipeR ρ (own.map (·.2))) := ((st.mono l1).mono c3.le).wipe _
      refine g2 W3 _ _ x _ _ k3 st3 rd (post0_of q1 fun W4 l4 k4 m4 σ4 st4 hw => ⟨hw.trans ?_, ?_⟩)
      · exact wipe_ext (wipe_length _ _) fun j hj => wipe_out hj
      rw [← m4] at q2
      refine t2 W4 σ4 ρ1 _ k4 st4 (post_of q2 fun W5 l5 k5 m5 => ?_)
      have c5 := (c3.mono l4 k4).mono l5 k5
      rcases q3 with ⟨rfl, q3⟩ | ⟨rfl, rfl, rfl⟩
      · rw [if_pos rfl]
        obtain ⟨y, M6, q5, q6⟩ := bnd_ok (m := e ρ1) q3
        obtain ⟨rfl, rfl⟩ := ret_ok q6
        rw [← m5] at q5
        refine e2 W5 σ4 ρ1 _ k5 (st4.mono l5) (post_of q5 fun W6 l6 k6 m6 v rv => ?_)
        have c6 := c5.mono l6 k6
        refine ⟨acc, c6.at', ?_, W6.wr D (.lst (acc ++ [v])), acc ++ [v], accD ++ [y], c6.app np rv, rfl, m6, rfl⟩
        rw [c6.r.length]
        have : (accD ++ ([y] ++ t')).length ≤ sizeLine := by rw [el]; exact hsz
        simp at this; omega
      · exact ⟨W5, acc, accD, c5, rfl, m5, by simp⟩
  · have e : i = it.items.length := by omega
    subst e
    rw [List.drop_length] at hc
    obtain ⟨hgd, rfl, rfl⟩ := compL_nil hc
    rw [List.append_nil] at el
    subst el
    obtain ⟨W3, w1, w2, w3, w4, w5⟩ := c2.finish md np
    refine .inl ⟨(hJ.2 W2 c2.le.toZ c2.ok hgd).2, ?_⟩
    rw [← w1]
    exact q W3 w3 w4 w2 _ w5

theorem lx_lc2 (md : Bool) {elt tg iter tg1 iter1 : Expr} {ifs ifs1 : List Expr} {scope : Scope} (own : List (Str × Nat)) (vs1 : List Nat) {pos : Pos} {f f1 : En → Mo Itd'} {h h1 : DL.D → En → Mo En} {c c1 : En → Mo Bool} {e : En → Mo DL.D} (hN : S.N.Nodup) (ok : BlkOk S.N S.sc scope own)
    (hv : ∀ i ∈ vs1, i ∈ own.map (·.2)) (hi : IX S tg iter f) (hg : GV (S.blk scope) (own.map (·.2)) tg h) (ht : TXs (S.blk scope) ifs c) (hi1 : IX (S.blk scope) tg1 iter1 f1) (hg1 : GV (S.blk scope) vs1 tg1 h1) (ht1 : TXs (S.blk scope) ifs1 c1) (he : EX (S.blk scope) elt e)
    (hs : ∀ (env : PySem.Env) x, foldedSetIterable iter env x = pure x := by intro _ _; rfl) (hs1 : ∀ (env : PySem.Env) x, foldedSetIterable iter1 env x = pure x := by intro _ _; rfl) :
    LX S (.ListComp elt [⟨tg, iter, ifs, 0⟩, ⟨tg1, iter1, ifs1, 0⟩] scope pos)
      (fun ρ => .bnd (f ρ) fun it => lcD md lenB' (compL it.gd (turn1 (wipeR ρ (own.map (·.2))) h c fun ρ1 => .bnd (f1 ρ1) fun it1 => compL it1.gd (turn1 (wipeR ρ1 vs1) h1 c1 (one' e)) it1.items) it.items)) := by
  obtain ⟨wi, i1, i2⟩ := hi.ex
  obtain ⟨g, g1, g2⟩ := hg.ex
  obtain ⟨tt, t1, t2⟩ := ht.ex
  obtain ⟨wi', j1, j2⟩ := hi1.ex
  obtain ⟨g', g1', g2'⟩ := hg1.ex
  obtain ⟨tt', t1', t2'⟩ := ht1.ex
  obtain ⟨te, e1, e2⟩ := he.ex
  refine ⟨tLc2 wi g tt wi' g' tt' te (own.map (·.2)) vs1, fun W σ ρ Q k st hh => ?_, fun X c => pe_lc2 c.calm (by rw [c.N]; exact hN) (i1 X c) (by rw [c.N, c.sc]; exact ok) hv (fun s H C cl fp => g1 _ (c.blk scope s H C cl fp)) (fun s H C cl fp => t1 _ (c.blk scope s H C cl fp)) (fun s H C cl fp => j1 _ (c.blk scope s H C cl fp)) (fun s H C cl fp => g1' _ (c.blk scope s H C cl fp)) (fun s H C cl fp => t1' _ (c.blk scope s H C cl fp)) (fun s H C cl fp => e1 _ (c.blk scope s H C cl fp)) (hs X.env) hs1,
    fun X c i y py spos hy hyl hsw => ps_setLc2 c.calm (by rw [c.N]; exact hN) hy hyl hsw (i1 X c) (by rw [c.N, c.sc]; exact ok) hv (fun s H C cl fp => g1 _ (c.blk scope s H C cl fp)) (fun s H C cl fp => t1 _ (c.blk scope s H C cl fp)) (fun s H C cl fp => j1 _ (c.blk scope s H C cl fp)) (fun s H C cl fp => g1' _ (c.blk scope s H C cl fp)) (fun s H C cl fp => t1' _ (c.blk scope s H C cl fp)) (fun s H C cl fp => e1 _ (c.blk scope s H C cl fp)) (hs X.env) hs1⟩
  refine i2 W σ ρ _ k st (Post.imp (Post.bnd hh) fun it W1 l1 k1 q J hJ => ?_)
  intro D hD
  obtain ⟨l, M', hl, hlen, q⟩ := lcD_inv q
  have np := k1.nopv hD
  have hsz : l.length ≤ sizeLine := by unfold lenB' at hlen; simpa using hlen
  refine ⟨fun i m H' => m = it.items.length - i ∧ i ≤ it.items.length ∧ ∃ W2 acc accD t, Cst S.K W1 D W2 acc accD ∧ W2.H = H' ∧ compL it.gd (turn1 (wipeR ρ (own.map (·.2))) h c fun ρ1 => .bnd (f1 ρ1) fun it1 => compL it1.gd (turn1 (wipeR ρ1 vs1) h1 c1 (one' e)) it1.items) (it.items.drop i) W2.M = some (.ok t, M') ∧ accD ++ t = l,
    ⟨_, rfl, Nat.zero_le _, W1.priv D (.lst []), [], [], l, Cst.init k1 hD, rfl, hl, rfl⟩, ?_⟩
  rintro i m H' ⟨rfl, hi, W2, acc, accD, t, c2, rfl, hc, el⟩
  by_cases hlt : i < it.items.length
  · rw [List.drop_eq_getElem_cons hlt] at hc
    obtain ⟨hgd, ys, M3, t', hturn, hrest, rfl⟩ := compL_cons hc
    obtain ⟨go, yl⟩ := (hJ.2 W2 c2.le.toZ c2.ok hgd).1 i hlt
    refine .inr ⟨go, fun H3 => ∃ W3 acc' accD', Cst S.K W1 D W3 acc' accD' ∧ W3.H = H3 ∧ W3.M = M3 ∧ accD' = accD ++ ys, ?_, ?_⟩
    · rintro H3 ⟨W3, acc', accD', a1, a2, a3, a4⟩
      exact ⟨_, by omega, rfl, hlt, W3, acc', accD', t', a1, a2, by rw [a3]; exact hrest, by rw [a4, List.append_assoc]; exact el⟩
    · intro x H' hy
      obtain ⟨W3, l3, k3, m3, rfl, d, hd, rd⟩ := yl x H' hy
      have hd' : d = it.items[i] := by
        rw [List.getElem?_eq_getElem hlt] at hd
        exact (Option.some.inj hd).symm
      subst hd'
      obtain ⟨ρ1, M4, b, M5, q1, q2, q3⟩ := turn1_ok hturn
      rw [← m3] at q1
      have c3 := c2.mono l3 k3
      have st3 : StR S.K W3 (wipe σ (own.map (·.2))) (wipeR ρ (own.map (·.2))) := ((st.mono l1).mono c3.le).wipe _
      refine g2 W3 _ _ x _ _ k3 st3 rd (post0_of q1 fun W4 l4 k4 m4 σ4 st4 hw => ⟨hw.trans ?_, ?_⟩)
      · exact wipe_ext (wipe_length _ _) fun j hj => wipe_out hj
      rw [← m4] at q2
      refine t2 W4 σ4 ρ1 _ k4 st4 (post_of q2 fun W5 l5 k5 m5 => ?_)
      have c5 := (c3.mono l4 k4).mono l5 k5
      rcases q3 with ⟨rfl, q3⟩ | ⟨rfl, rfl, rfl⟩
      · rw [if_pos rfl]
        obtain ⟨it1, M6, q5, q6⟩ := bnd_ok (m := f1 ρ1) q3
        rw [← m5] at q5
        refine j2 W5 σ4 ρ1 _ k5 (st4.mono l5) (post_of q5 fun W6 l6 k6 m6 J1 hJ1 => ?_)
        have c6 := c5.mono l6 k6
        rw [← m6] at q6
        refine ⟨fun j m H' => m = it1.items.length - j ∧ j ≤ it1.items.length ∧ ∃ W7 acc7 accD7 t7, Cst S.K W1 D W7 acc7 accD7 ∧ LeZ S.K W6 W7 ∧ W7.H = H' ∧ compL it1.gd (turn1 (wipeR ρ1 vs1) h1 c1 (one' e)) (it1.items.drop j) W7.M = some (.ok t7, M3) ∧ accD7 ++ t7 = accD ++ ys, ?_, ?_⟩
        · exact ⟨_, rfl, Nat.zero_le _, W6, acc, accD, ys, c6, (Le.refl _ _).toZ, rfl, q6, rfl⟩
        rintro j m H' ⟨rfl, hj, W7, acc7, accD7, t7, c7, z7, rfl, hc7, el7⟩
        by_cases hjl : j < it1.items.length
        · rw [List.drop_eq_getElem_cons hjl] at hc7
          obtain ⟨hgd7, ys7, M8, t8, hturn7, hrest7, rfl⟩ := compL_cons hc7
          obtain ⟨go7, yl7⟩ := (hJ1.2 W7 z7 c7.ok hgd7).1 j hjl
          refine .inr ⟨go7, fun H3 => ∃ W3 acc' accD', Cst S.K W1 D W3 acc' accD' ∧ LeZ S.K W6 W3 ∧ W3.H = H3 ∧ W3.M = M8 ∧ accD' = accD7 ++ ys7, ?_, ?_⟩
          · rintro H3 ⟨W3, acc', accD', a1, az, a2, a3, a4⟩
            exact ⟨_, by omega, rfl, hjl, W3, acc', accD', t8, a1, az, a2, by rw [a3]; exact hrest7, by rw [a4, List.append_assoc]; exact el7⟩
          · intro x H' hy
            obtain ⟨W8, l8, k8, m8, rfl, d, hd, rd⟩ := yl7 x H' hy
            have hd' : d = it1.items[j] := by
              rw [List.getElem?_eq_getElem hjl] at hd
              exact (Option.some.inj hd).symm
            subst hd'
            obtain ⟨ρ2, M9, b, M10, p1, p2, p3⟩ := turn1_ok hturn7
            rw [← m8] at p1
            have c8 := c7.mono l8 k8
            have z8 := z7.trans l8.toZ
            have st8 : StR S.K W8 (wipe σ4 vs1) (wipeR ρ1 vs1) := StR.wipe ⟨(st4.mono (l5.trans l6)).1, fun i d hd => let ⟨v, h1, h2⟩ := (st4.mono (l5.trans l6)).2 i d hd; ⟨v, h1, h2.mono0 z8.zero⟩⟩ _
            refine g2' W8 _ _ x _ _ k8 st8 rd (post0_of p1 fun W9 l9 k9 m9 σ9 st9 hw => ⟨hw.trans ?_, ?_⟩)
            · exact wipe_ext (wipe_length _ _) fun j hj => wipe_out hj
            rw [← m9] at p2
            refine t2' W9 σ9 ρ2 _ k9 st9 (post_of p2 fun W10 l10 k10 m10 => ?_)
            have c10 := (c8.mono l9 k9).mono l10 k10
            have z10 := (z8.trans l9.toZ).trans l10.toZ
            rcases p3 with ⟨rfl, p3⟩ | ⟨rfl, rfl, rfl⟩
            · rw [if_pos rfl]
              obtain ⟨y, M11, p5, p6⟩ := bnd_ok (m := e ρ2) p3
              obtain ⟨rfl, rfl⟩ := ret_ok p6
              rw [← m10] at p5
              refine e2 W10 σ9 ρ2 _ k10 (st9.mono l10) (post_of p5 fun W11 l11 k11 m11 v rv => ?_)
              have c11 := c10.mono l11 k11
              refine ⟨acc7, c11.at', ?_, W11.wr D (.lst (acc7 ++ [v])), acc7 ++ [v], accD7 ++ [y], c11.app np rv, (z10.trans l11.toZ).trans c11.appZ, rfl, m11, rfl⟩
              rw [c11.r.length]
              have h1 : (accD7 ++ ([y] ++ t8)).length = (accD ++ ys).length := by rw [el7]
              have h2 : (accD ++ (ys ++ t')).length ≤ sizeLine := by rw [el]; exact hsz
              simp at h1 h2; omega
            · exact ⟨W10, acc7, accD7, c10, z10, rfl, m10, by simp⟩
        · have e : j = it1.items.length := by omega
          subst e
          rw [List.drop_length] at hc7
          obtain ⟨hgd7, rfl, hM⟩ := compL_nil hc7
          exact .inl ⟨(hJ1.2 W7 z7 c7.ok hgd7).2, W7, acc7, accD7, c7, rfl, hM.symm, by simpa using el7⟩
      · exact ⟨W5, acc, accD, c5, rfl, m5, by simp⟩
  · have e : i = it.items.length := by omega
    subst e
    rw [List.drop_length] at hc
    obtain ⟨hgd, rfl, rfl⟩ := compL_nil hc
    rw [List.append_nil] at el
    subst el
    obtain ⟨W3, w1, w2, w3, w4, w5⟩ := c2.finish md np
    refine .inl ⟨(hJ.2 W2 c2.le.toZ c2.ok hgd).2, ?_⟩
    rw [← w1]
    exact q W3 w3 w4 w2 _ w5
end
end DL
namespace DL
open PySem PySem.Spec PyProof.Rows L2

section
variable {prog : Program} {w : World} {A : Around} {E : Value → Shared → Prop} {s : Shared}
theorem extend_rev {it l S : Addr} {items : Array Value} {res : Value} {c₀ : Nat} {R : Result → Shared → Prop} (hh : A.handled = none) (hit : s.heap.IsRevIter it l ((items.size : Int) - 1)) (hl : s.heap.IsList l items) (hne : l ≠ it) (hn : items.size ≤ sizeLine)
    (hSi : S ≠ it) (hSl : S ≠ l) (hS : s.heap.get? S = some { cls := .type "list", data := .seq #[] c₀ })
    (hR : ∀ h' tk acc' c', (∀ b o, b ≠ S → b ≠ it → s.heap.get? b = some o → h'.get? b = some o) → h'.get? S = some { cls := .type "list", dict := none, data := .seq acc' c', slots := #[] } → ItemsOf (fun i v => items[items.size - 1 - i]? = some v) acc' items.size → R (.ok (.ret res)) { s with heap := h', toks := tk }) :
    wpAny (model prog w) A.in1 (Builtin.List.listExtendWith (.ref S) (.ref it) res)
      (fun fin s' => match fin with | .done f => R (.ok f) s' | .again c' => c'.quiet = true ∧ codeAny (model prog w) A c' R s') (fun e s' => R (.error e) s') s := by
  have W := (Walks.listRev (prog := prog) (w := w) (A := A.in1) hh it l hne items).toS
  have hSf : S ∉ [it, l] := by simp only [List.mem_cons, List.not_mem_nil, or_false, not_or]; exact ⟨hSi, hSl⟩
  have hT : s.TypeIs (.ref it) "list_reverseiterator" := Heap.IsRevIter.typeIs hit
  have h1 : Builtin.List.listSameRef (.ref S) (.ref it) = false := by simp [Builtin.List.listSameRef, hSi]
  unfold Builtin.List.listExtendWith
  refine wpAny_bind (wpAny_typeOf hT ?_)
  rw [if_neg (by rw [h1]; decide)]
  refine wpAny_bind (wpAny_pyIter_revIter hit ?_)
  refine wpAny_bind (wpAny_holding ?_)
  unfold Builtin.List.listLengthHint
  refine wpAny_bind (wpAny_specialOf hT RT.nolen_lri ?_)
  show wpAny _ A.in1 (specialOf (Value.ref it) (Str.ofString "__length_hint__") >>= _) _ _ _
  refine wpAny_bind (wpAny_specialOf hT RT.hint_lri ?_)
  generalize hid : ("list_reverseiterator.__length_hint__" : String) = id0
  wp_delta
  rw [show splitId id0 = some ("list_reverseiterator", "__length_hint__") from by subst hid; decide +kernel]
  subst hid
  refine wpAny_bind (wpAny_isInstance (b := true) hT (by rw [isSubtype_type]; kernel_rfl) ?_)
  refine wpAny_pure ?_
  rw [if_neg (by decide)]
  have e0 : ((items.size : Nat) : Int) - 1 - ((0 : Nat) : Int) = (items.size : Int) - 1 := by omega
  refine wpAny_pure ⟨plainId_quiet F.plain_extend_loop _, codeAny_extend_loopS W hn _ hSf _ items.size 0 _ _ _ rfl (Nat.zero_le _) ⟨Nat.zero_le _, by rw [e0]; exact hit, hl⟩ hS (ItemsOf.nil _) fun s' acc' c' hm hS' hacc => ?_⟩
  rw [Moved.eq_with hm]
  refine hR s'.heap s'.toks acc' c' (fun b o hb hb2 e => hm.heap b o (fun hmem => ?_) e) hS' hacc
  rcases List.mem_cons.mp hmem with e' | hmem
  · exact hb e'
  · exact hb2 (List.mem_singleton.mp hmem)
theorem call_list_rev {it l : Addr} {items : Array Value} {Q : Value → Shared → Prop} (hh : A.handled = none) (hit : s.heap.IsRevIter it l ((items.size : Int) - 1)) (hl : s.heap.IsList l items) (hne : l ≠ it) (hn : items.size ≤ sizeLine)
    (hQ : ∀ h' tk acc' c', (∀ b o, b ≠ it → s.heap.get? b = some o → h'.get? b = some o) → h'.get? s.heap.objs.size = some { cls := .type "list", dict := none, data := .seq acc' c', slots := #[] } → ItemsOf (fun i v => items[items.size - 1 - i]? = some v) acc' items.size → Q (.ref s.heap.objs.size) { s with heap := h', toks := tk }) :
    wpAny (model prog w) A (call (.type "list") [.ref it]) Q E s := by
  refine callType_codes (Q₁ := fun obj s₁ => obj = .ref s.heap.objs.size ∧ s₁ = { s with heap := s.heap.push { cls := .type "list", data := .seq #[] } }) PySem.F.called_list (PySem.F.typeCall_list_1 _) PySem.F.entry_list_init
    (code_list_new _ ⟨rfl, rfl⟩) fun obj s₁ h₁ => ?_
  obtain ⟨rfl, rfl⟩ := h₁
  have hS : (s.heap.push { cls := .type "list", data := .seq #[] }).get? s.heap.objs.size = some { cls := .type "list", data := .seq #[] } := Heap.get?_push_size _ rfl
  obtain ⟨oi, hoi, _⟩ := id hit
  obtain ⟨ol, hol, _⟩ := id hl
  have hSi : s.heap.objs.size ≠ it := Nat.ne_of_gt (Heap.lt_size hoi)
  have hSl : s.heap.objs.size ≠ l := Nat.ne_of_gt (Heap.lt_size hol)
  refine ⟨⟨_, hS, rfl⟩, PySem.F.args_list_init_2 _ _, ?_⟩
  show wpAny _ _ (do let old ← Builtin.List.listItems (.ref s.heap.objs.size); Builtin.List.listUpdate (.ref s.heap.objs.size) (fun _ => #[]); letGo old.toList.reverse; Builtin.List.listExtendWith (.ref s.heap.objs.size) (.ref it) .none) _ _ _
  refine wpAny_bind ?_
  unfold Builtin.List.listItems
  refine wpAny_bind (wpAny_seqItems hS rfl (wpAny_pure ?_))
  show wpAny _ _ (updateSeq s.heap.objs.size (fun _ => #[]) >>= fun _ => letGo (#[] : Array Value).toList.reverse >>= fun _ => Builtin.List.listExtendWith (.ref s.heap.objs.size) (.ref it) .none) _ _ _
  refine wpAny_bind (wpAny_updateSeq hS rfl ?_)
  have hS₂ := Heap.get?_update_self (Obj.mapSeq (fun _ => (#[] : Array Value))) hS rfl
  have oth : ∀ b o, b ≠ s.heap.objs.size → (s.heap.push { cls := .type "list", data := .seq #[] }).get? b = some o → ((s.heap.push { cls := .type "list", data := .seq #[] }).update s.heap.objs.size (Obj.mapSeq (fun _ => (#[] : Array Value)))).get? b = some o :=
    fun b o hb e => (Heap.get?_update_other _ _ (Ne.symm hb)).trans e
  refine wpAny_bind (wpAny_letGo ?_)
  refine extend_rev (A := A.in1) (items := items) (l := l) hh (hit.at fun o e => oth _ _ hSi.symm (Heap.get?_push_of_some _ e)) (hl.at fun o e => oth _ _ hSl.symm (Heap.get?_push_of_some _ e)) hne hn hSi hSl hS₂ fun h' tk acc' c' hk hS' hacc => ?_
  exact ⟨rfl, hQ h' tk acc' c' (fun b o hb e => hk b o (Nat.ne_of_lt (Heap.lt_size e)) hb (oth b o (Nat.ne_of_lt (Heap.lt_size e)) (Heap.get?_push_of_some _ e))) hS' hacc⟩
end
section
variable {X : Cx}
def tLstRev (K : PySem.W.Frag) (te : TE) : TE := fun σ H Q => te σ H fun v H1 => ∃ (a : Addr) (xs : List V), v = .ref a ∧ SqL K H1 a xs ∧ ∀ q, H1 q = none → Q (.ref q) (upd H1 q (.lst xs.reverse))
theorem pe_lstRev {e : Expr} {te : TE} {p p2 pos pos2 : Pos} (hc : X.calm = true) (hg : Gl X "list") (hm : X.mg "list" = none) (hg2 : Gl X "reversed") (hm2 : X.mg "reversed" = none) (he : PE X e te)
    (hs : starEach [e] X.env = (false, eval e X.env) :: starEach [] X.env := by rfl)
    (hs2 : starEach [.Call (.Name "reversed" p2) [e] [] pos2] X.env = (false, eval (.Call (.Name "reversed" p2) [e] [] pos2) X.env) :: starEach [] X.env := by rfl) :
    PE X (.Call (.Name "list" p) [.Call (.Name "reversed" p2) [e] [] pos2] [] pos) (tLstRev X.K te) := by
  refine ⟨fun pins s σ H Q I h => ?_⟩
  refine Call_ (ld_blt I hg hm boot_list (PyProof.Rows.callWith_type1 (args_cons (Call_ (ld_blt I hg2 hm2 PyProof.Rows.boot_reversed (PyProof.Rows.callWith_type1 (args_cons (thn (he.run pins s σ H _ I h) fun u s1 ⟨v, H1, I1, r1, q1⟩ => args_nil ?_) hs) hs rfl))) hs2) hs2 rfl))
  obtain ⟨a, xs, ev, hq, q⟩ := q1
  subst ev
  obtain rfl : u = Value.ref a := r1
  obtain ⟨its, rv, p', hz⟩ := I1.list hq
  refine PySem.call_reversed_list p'.isList (args_nil ?_)
  have k0 : ∀ b o, s1.heap.get? b = some o → (s1.heap.push (revObj a ((its.toArray.size : Int) - 1))).get? b = some o := fun b o e => Heap.get?_push_of_some _ e
  have I2 : Inv X pins σ H1 { s1 with heap := s1.heap.push (revObj a ((its.toArray.size : Int) - 1)) } := I1.kept (t' := s1.toks) k0
  obtain ⟨f0, f1, f2, f3, f4, f5⟩ := I1.fpOk (H' := H1) (b := s1.heap.objs.size) (Nat.le_refl _) (I1.hok.fresh (Nat.le_refl _))
  have hl := p'.isList
  obtain ⟨ol, hol, _⟩ := id hl
  have hne : a ≠ s1.heap.objs.size := Nat.ne_of_lt (Heap.lt_size hol)
  have hn : its.toArray.size ≤ sizeLine := by rw [List.size_toArray, ← rv.length]; exact hz
  refine call_list_rev (s := { s1 with heap := s1.heap.push (revObj a ((its.toArray.size : Int) - 1)) }) (I1.ok.hd hc) ⟨_, Heap.get?_push_size _ rfl, rfl, rfl⟩ (hl.push _) hne hn fun h' tk acc c' hk hS hi => ?_
  have hsz : (s1.heap.push (revObj a ((its.toArray.size : Int) - 1))).objs.size = s1.heap.objs.size + 1 := Heap.size_push ..
  have keep : ∀ b o, s1.heap.get? b = some o → h'.get? b = some o := fun b o e => hk b o (Nat.ne_of_lt (Heap.lt_size e)) (Heap.get?_push_of_some _ e)
  have hfr : H1 (s1.heap.push (revObj a ((its.toArray.size : Int) - 1))).objs.size = none := I1.hok.fresh (by rw [hsz]; exact Nat.le_succ _)
  refine ⟨.ref (s1.heap.push (revObj a ((its.toArray.size : Int) - 1))).objs.size, upd H1 (s1.heap.push (revObj a ((its.toArray.size : Int) - 1))).objs.size (.lst xs.reverse), I1.laid (t' := tk) keep (by rw [hsz]; exact Nat.le_succ _) (show ObjOk X.prog X.w _ _ _ (.lst xs.reverse) from ⟨by rw [List.length_reverse]; exact hz, acc.toList, c', RT.vals_rev rv hi, ?_⟩), rfl, q _ hfr⟩
  rw [Array.toArray_toList]
  exact hS

def Sq (K : KP) (H : Hp) (a : Addr) (xs : List V) : Prop := SqL K.K H a xs ∨ SqT K.K H a xs ∨ (∃ kvs, Rd H a (.dK kvs) ∧ xs = kvs.map fun kv => kV kv.1) ∨ ∃ es, Rd H a (TD K a es) ∧ xs = es.map fun e => .ref e.2.1
theorem vals_raw {es : Array DictEntry} {ks : TE3} {prog : Program} {w : World} {knd : HeapKind prog w (List Key)} {acc : Array Value} (he : es.toList = ks.map (entryOfKey knd)) (hi : ItemsOf (fun i v => ∃ en : DictEntry, es[i]? = some en ∧ v = en.key) acc es.size) : Vals (ks.map fun x => V.ref x.2.1) acc.toList := by
  have hl : es.size = ks.length := by
    have := congrArg List.length he
    simpa using this
  have ea : acc.toList = ks.map fun x => Value.ref x.2.1 := by
    apply List.ext_getElem?
    intro j
    rw [List.getElem?_map]
    cases hj : acc.toList[j]? with
    | none =>
      have h1 := List.getElem?_eq_none_iff.mp hj
      rw [Array.length_toList, hi.1, hl] at h1
      rw [List.getElem?_eq_none h1]; rfl
    | some v =>
      obtain ⟨en, hen, hv⟩ := hi.2 j v (by rw [← Array.getElem?_toList]; exact hj)
      have qe : es.toList[j]? = some en := by rw [Array.getElem?_toList]; exact hen
      rw [he, List.getElem?_map] at qe
      cases hb : ks[j]? with
      | none => rw [hb] at qe; cases qe
      | some b =>
        rw [hb] at qe
        have e2 : entryOfKey knd b = en := Option.some.inj qe
        rw [hv, ← e2]; rfl
  rw [ea]
  have e2 : (ks.map fun x => Value.ref x.2.1) = (ks.map fun x => x.2.1).map Value.ref := by rw [List.map_map]; rfl
  have e3 : (ks.map fun x => V.ref x.2.1) = (ks.map fun x => x.2.1).map V.ref := by rw [List.map_map]; rfl
  rw [e2, e3]
  exact vals_refs _
section
variable {X : Cx} {pins : List (Addr × Obj)} {σ : L2.St} {H : Hp} {s : Shared} {a : Addr} {xs : List V} {E : Value → Shared → Prop}
theorem Sq.len (I : Inv X pins σ H s) (h : Sq (XK X) H a xs) : xs.length ≤ sizeLine := by
  rcases h with h | h | ⟨kvs, h, rfl⟩ | ⟨es, h, rfl⟩
  · exact (szH I []).l a xs h
  · exact (szH I []).t a xs h
  · rw [List.length_map]; exact (szH I []).k a kvs h
  · rw [List.length_map]; exact (szH I []).kt a es h
theorem collect_sq {R : List Value → Shared → Prop} {A : Around} (hh : A.handled = none) (I : Inv X pins σ H s) (h : Sq (XK X) H a xs) (hR : ∀ (h' : Heap) (tk : Nat) (out : List Value), (∀ b o, s.heap.get? b = some o → h'.get? b = some o) → Vals xs out → R out { s with heap := h', toks := tk }) :
    wpAny (model X.prog X.w) A (collect (.ref a)) R E s := by
  rcases h with h | h | ⟨kvs, h, rfl⟩ | ⟨es, h, rfl⟩
  · obtain ⟨its, rv, p, hz⟩ := I.list h
    obtain ⟨o, ho, hc, n, hd⟩ := id p.isList
    exact wpAny_collect_seq a (.inl rfl) ho hc hd (fun h' hk => hR h' s.toks its hk rv) (by rw [List.size_toArray, ← rv.length]; exact hz)
  · obtain ⟨its, rv, p, hz⟩ := I.tuple h
    obtain ⟨o, ho, hc, n, hd⟩ := id p
    exact wpAny_collect_seq a (.inr rfl) ho hc hd (fun h' hk => hR h' s.toks its hk rv) (by rw [List.size_toArray, ← rv.length]; exact hz)
  · obtain ⟨z, lo, vs, rel, dd⟩ := dk_rd I.hok h
    obtain ⟨ep, hat⟩ := dd.dictAt
    have ek : (kvs.map fun kv => kV kv.1) = vs.map fun p => kV p.1 := by
      have e := congrArg (List.map kV) rel.keys
      rw [List.map_map, List.map_map] at e
      exact e
    refine PySem.W.kdu_collect (PySem.W.kdl_dict (knd := mixKind X.prog X.w) (kvs := vs) (ep := ep) lo) hh hat (by rw [← rel.length]; exact z) fun h' tk acc hk hacc => hR h' tk acc.toList hk ?_
    rw [ek]
    exact keys_at (by rw [Array.length_toList]; exact hacc.1) fun j v e => hacc.2 j v (by rw [← Array.getElem?_toList]; exact e)
  · obtain ⟨z, lo, o, es', ep, h1, h2, h3, h4, h5⟩ := td_at I h
    have hl : es'.size = es.length := by
      have := congrArg List.length h4
      simpa using this
    exact PySem.W.kdu_collect (kdl_raw lo h2 h3) hh h1 (by omega) fun h' tk acc hk hacc => hR h' tk acc.toList hk (vals_raw h4 hacc)
/-- sorted(x) -/
def rSorted (K : KP) : List V → Hp → VK → Prop := fun vs H Q => ∃ (a : Addr) (xs : List V) (bs : List (V × DL.D × PyData)), vs = [.ref a] ∧ Sq K H a xs ∧ xs = bs.map (·.1) ∧ DpAll K.K H xs (bs.map (·.2.2)) ∧ PySem.W.AllAlike (bs.map (·.2.2)) ∧ PySem.W.Sortable (bs.map (·.2.2)) ∧ (∀ b ∈ bs, b.2.2.depth ≤ 60) ∧
  ∀ p, H p = none → Q (.ref p) (upd H p (.lst ((bs.mergeSort (PySem.W.dataLe false fun b => b.2.2)).map (·.1))))
theorem vals_fst : ∀ {out : List Value} {bs : List (V × DL.D × PyData)}, PySem.W.EachIs (fun v b => RelV b.1 v) out bs → Vals (bs.map (·.1)) out
  | _, _, .nil => .nil
  | _, _, .cons h t => .cons h (vals_fst t)
theorem fst_vals : ∀ {out : List Value} {bs : List (V × DL.D × PyData)}, Vals (bs.map (·.1)) out → PySem.W.EachIs (fun v b => RelV b.1 v) out bs
  | [], [], _ => .nil
  | [], _ :: _, h => by cases h
  | _ :: _, [], h => by cases h
  | _ :: _, _ :: _, .cons h t => .cons h (fst_vals t)
theorem readsAll_each' {h : Heap} : ∀ {out : List Value} {bs : List (V × DL.D × PyData)} {as : List Addr}, ReadsAll h out (bs.map (·.2.2)) as → PySem.W.EachIs (fun v b => ∃ as, Reads h v b.2.2 as) out bs
  | _, [], _, h => by cases h; exact .nil
  | _, _ :: _, _, h => by
    cases h with
    | cons h1 h2 => exact .cons ⟨_, h1⟩ (readsAll_each' h2)
theorem call_sorted (hcalm : X.calm = true) (hu : X.A.units + 65 < cLine) : CallR X (.builtin "sorted") (rSorted (XK X)) := by
  intro pins s σ H xs us Q I r q
  obtain ⟨a, xs, bs, rfl, hq, ex, hdp, hal, hso, hdep, q⟩ := q
  obtain ⟨u, rfl, rx⟩ := vals1 r
  cases rx
  have hz := Sq.len I hq
  refine Calls.call_function_entry PyProof.Rows.kind_sorted PyProof.Rows.plain_sorted PyProof.Rows.entry_sorted (PyProof.Rows.args_sorted1 _) ?_
  unfold Builtin.«sorted»
  refine wpAny_bind (m := checkCount "sorted" 1 1 _) (wpAny_pure ?_)
  refine wpAny_bind (collect_sq (A := X.A.in1) (I.ok.hd hcalm) I hq fun h' tk out hk rv => ?_)
  have I1 : Inv X pins σ H { s with heap := h', toks := tk } := I.kept hk
  have hlo : out.length = bs.length := by rw [← rv.length, ex, List.length_map]
  have hL : out.length ≤ sizeLine := by rw [← rv.length]; exact hz
  refine wpAny_bind (wpAny_newList ?_ hL)
  have hoL : (h'.push (seqObj "list" out.toArray 0)).get? h'.objs.size = some (seqObj "list" out.toArray 0) := Heap.get?_push_size _ rfl
  show wpAny _ _ _ _ _ { s with heap := h'.push (seqObj "list" out.toArray 0), toks := tk }
  obtain ⟨as, hreads⟩ := Dp.readsAll I1 _ _ _ hdp rv
  have er : PySem.W.EachIs (fun v (b : V × DL.D × PyData) => ∃ as, Reads (PySem.W.sortingHeap (h'.push (seqObj "list" out.toArray 0)) h'.objs.size out) v b.2.2 as) out bs :=
    (readsAll_each' hreads).mono fun _ _ ⟨as, z⟩ => ⟨as, PyProof.Rows.Reads.keeps (fun b o e => PySem.W.sortingHeap_old (Nat.ne_of_lt (Heap.lt_size e)) (Heap.get?_push_of_some _ e)) z⟩
  have e1 : PySem.W.EachIs (fun v (b : V × DL.D × PyData) => RelV b.1 v) out bs := fst_vals (by rw [← ex]; exact rv)
  have S := PySem.W.SortsAt.data (prog := X.prog) (w := X.w) (A := X.A.in1.in1) (s := { s with heap := PySem.W.sortingHeap (h'.push (seqObj "list" out.toArray 0)) h'.objs.size out, toks := tk }) (PySem.W.each_map (R := fun v d => ∃ as, Reads (PySem.W.sortingHeap (h'.push (seqObj "list" out.toArray 0)) h'.objs.size out) v d as) (fun b : V × DL.D × PyData => b.2.2) er) hal hso (PySem.W.bound_map fun b hb => by
    have := hdep b hb
    show X.A.units + 1 + 1 + _ < _
    omega)
  refine wpAny_bind (wpAny_holding (wpAny_call_entry PyProof.Rows.slot_list_sort ⟨_, hoL, rfl⟩ PyProof.Rows.entry_list_sort
    (PySem.W.list_sort_vals (s := { s with heap := h'.push (seqObj "list" out.toArray 0), toks := tk }) hoL S hL ⟨_, rfl, ?_⟩)
    (PyProof.Rows.args_list_sort _)))
  have e2 := PySem.W.sortVals_data false e1 er hal
  have hv := vals_fst e2
  have hlen : ((bs.mergeSort (PySem.W.dataLe false fun b => b.2.2)).map (·.1)).length ≤ sizeLine := by
    rw [List.length_map, List.length_mergeSort, ← hlo]; exact hL
  obtain ⟨e', he'⟩ := PyProof.Rows.sortedHeap_at (vs := out) (out := (PySem.W.sortVals (PySem.W.dataKind (PySem.W.sortingHeap (h'.push (seqObj "list" out.toArray 0)) h'.objs.size out) (bs.map fun b => b.2.2)) false out out).toArray) hoL
  refine wpAny_pure ⟨_, rfl, .ref h'.objs.size, _, I1.laid (t' := tk) (fun b u e => ?_) (Nat.le_refl _)
    (show ObjOk X.prog X.w _ _ _ (.lst ((bs.mergeSort (PySem.W.dataLe false fun b => b.2.2)).map (·.1))) from ⟨hlen, _, e', hv, he'⟩), rfl, q _ (I1.hok.fresh (Nat.le_refl _))⟩
  have hb : b < h'.objs.size := Heap.lt_size e
  rw [PyProof.Rows.sortedHeap_old (Nat.ne_of_lt hb) (by rw [size_push']; exact Nat.lt_succ_of_lt hb)]
  exact Heap.get?_push_of_some _ e
end
end
end DL
namespace DL
open PySem PySem.Spec PyProof.Rows L2
section
variable {S : SC} {W : Wd} {σ : L2.St}
theorem post_new {md : Bool} {ds : List DL.D} {vs : List V} {Q : VK} (k : Ok S.K W) (r : RpA S.K W vs ds) (h : Post S W σ (finD md ds W.M) (PV S Q)) : ∀ p, W.H p = none → Q (.ref p) (upd W.H p (.lst vs)) := by
  cases md with
  | false => exact post_lay k r h
  | true => exact post_grow k r h
/-- the items of a value -/
def seqK (M : Mem) (d : DL.D) : Option (List DL.D) := match res M d with
  | .tup l => some l
  | .lst l => some l
  | .dct _ l => some (l.map (·.1))
  | _ => none
theorem rpk_keys {K : KP} {W : Wd} : ∀ {kvs : List (Key × V)} {ds : List (DL.D × DL.D)}, RpK K W kvs ds → RpA K W (kvs.map fun kv => kV kv.1) (ds.map (·.1))
  | _, _, .nil => .nil
  | _, _, .cons _ t => .cons (rp_kD _) (rpk_keys t)
theorem rpt_keys {K : KP} {W : Wd} : ∀ {xs : TE3} {kvs : List (List Key × V)} {ds : List (DL.D × DL.D)}, KS K.K W.H xs kvs → RpT K W kvs ds → RpA K W (xs.map fun e => .ref e.2.1) (ds.map (·.1))
  | _, _, _, .nil, .nil => .nil
  | _, _, _, .cons hs _ t, .cons _ u => .cons (.tup hs (rpa_kD _)) (rpt_keys t u)
theorem seqK_run {K : KP} {v : V} {d : DL.D} {l : List DL.D} (k : Ok K W) (r : Rp K W v d) (h : seqK W.M d = some l) : ∃ a xs, v = .ref a ∧ Sq K W.H a xs ∧ RpA K W xs l := by
  unfold seqK at h
  split at h
  · rename_i ds e
    cases h
    obtain ⟨p, xs, rfl, s1, r1⟩ := res_tup r e
    exact ⟨p, xs, rfl, .inr (.inl s1), r1⟩
  · rename_i ds e
    cases h
    obtain ⟨p, xs, rfl, s1, r1⟩ := rd_lst k r e
    exact ⟨p, xs, rfl, .inl s1, r1⟩
  · rename_i t ds e
    cases h
    have hb : dctB W.M d = some (t, ds) := by unfold dctB; rw [e]
    obtain ⟨a, rfl, h⟩ := dct_run k r hb
    rcases h with ⟨rfl, kvs, h1, h2⟩ | ⟨rfl, xs, kvs, h1, h2, h3⟩
    · exact ⟨a, _, rfl, .inr (.inr (.inl ⟨kvs, h1, rfl⟩)), rpk_keys h2⟩
    · exact ⟨a, _, rfl, .inr (.inr (.inr ⟨xs, h1, rfl⟩)), rpt_keys h2 h3⟩
  · cases h
def enc (d : DL.D) : PyData := (py d).getD .none
theorem pyL_enc : ∀ {l : List DL.D} {ps : List PyData}, pyL l = some ps → ps = l.map enc
  | [], _, h => by cases h; rfl
  | d :: r, ps, h => by
    rw [pyL] at h
    cases e : py d with
    | none => rw [e] at h; cases h
    | some p =>
      cases e2 : pyL r with
      | none => rw [e, e2] at h; cases h
      | some ps' =>
        rw [e, e2] at h; cases h
        rw [pyL_enc e2, List.map_cons]
        congr 1
        unfold enc; rw [e]; rfl
def alikeB (ps : List PyData) : Bool := ps.all fun d => ps.all fun d' => PySem.W.alike d d'
def sortB (ps : List PyData) : Bool := (ps.all fun d => match d with | .tuple (_ :: _) => true | _ => false) || ps.all fun d => match d with | .none => false | .tuple _ => false | _ => true
theorem alikeB_run {ps : List PyData} (h : alikeB ps = true) : PySem.W.AllAlike ps := fun d hd d' hd' => List.all_eq_true.mp (List.all_eq_true.mp h d hd) d' hd'
theorem sortB_run {ps : List PyData} (h : sortB ps = true) : PySem.W.Sortable ps := by
  unfold sortB at h
  rw [Bool.or_eq_true] at h
  rcases h with h | h
  · refine .inl fun d hd => ?_
    have := List.all_eq_true.mp h d hd
    split at this
    · exact ⟨_, _, rfl⟩
    · cases this
  · refine .inr fun d hd => ?_
    have := List.all_eq_true.mp h d hd
    split at this
    · cases this
    · cases this
    · rename_i h1 h2
      exact ⟨h1, h2⟩
def sortOk (l : List DL.D) : Bool := (pyL l).isSome && alikeB (l.map enc) && sortB (l.map enc) && l.all fun d => decide ((enc d).depth ≤ 60)
def sortL (l : List DL.D) : List DL.D := l.mergeSort (PySem.W.dataLe false enc)
def sortedD (md : Bool) (d : DL.D) : Mo DL.D := fun M => match seqK M d with
  | some l => cond (sortOk l) (finD md (sortL l) M) none
  | none => none
def trip (xs : List V) (l : List DL.D) : List (V × DL.D × PyData) := (xs.zip l).map fun p => (p.1, p.2, enc p.2)
theorem trip_1 {xs : List V} {l : List DL.D} (h : xs.length = l.length) : (trip xs l).map (·.1) = xs := by
  unfold trip
  rw [List.map_map]
  exact List.map_fst_zip (by omega)
theorem trip_2 {xs : List V} {l : List DL.D} (h : xs.length = l.length) : (trip xs l).map (·.2.1) = l := by
  unfold trip
  rw [List.map_map]
  exact List.map_snd_zip (by omega)
theorem trip_3 {xs : List V} {l : List DL.D} (h : xs.length = l.length) : (trip xs l).map (·.2.2) = l.map enc := by
  unfold trip
  rw [List.map_map]
  have : ((fun x : V × DL.D × PyData => x.2.2) ∘ fun p : V × DL.D => (p.1, p.2, enc p.2)) = enc ∘ Prod.snd := rfl
  rw [this, ← List.map_map, List.map_snd_zip (by omega)]
theorem trip_mem {xs : List V} {l : List DL.D} {b : V × DL.D × PyData} (h : b ∈ trip xs l) : b.2.2 = enc b.2.1 ∧ (b.1, b.2.1) ∈ xs.zip l := by
  unfold trip at h
  obtain ⟨p, hp, rfl⟩ := List.mem_map.mp h
  exact ⟨rfl, hp⟩
theorem rpa_zip {K : KP} : ∀ {xs : List V} {l : List DL.D}, RpA K W xs l → ∀ p ∈ xs.zip l, Rp K W p.1 p.2
  | _, _, .nil, p, h => by simp at h
  | _, _, .cons r t, p, h => by
    rw [List.zip_cons_cons] at h
    rcases List.mem_cons.mp h with rfl | h
    · exact r
    · exact rpa_zip t p h
theorem rpa_of {K : KP} : ∀ {bs : List (V × DL.D × PyData)}, (∀ b ∈ bs, Rp K W b.1 b.2.1) → RpA K W (bs.map (·.1)) (bs.map (·.2.1))
  | [], _ => .nil
  | b :: bs, h => .cons (h b List.mem_cons_self) (rpa_of fun c hc => h c (List.mem_cons_of_mem _ hc))
theorem sorted_run {K : KP} {xs : List V} {l : List DL.D} (r : RpA K W xs l) : RpA K W (((trip xs l).mergeSort (PySem.W.dataLe false fun b => b.2.2)).map (·.1)) (sortL l) := by
  have hl := r.length
  have e : sortL l = ((trip xs l).mergeSort (PySem.W.dataLe false fun b => b.2.2)).map (·.2.1) := by
    unfold sortL
    rw [List.map_mergeSort (s := PySem.W.dataLe false enc) (f := fun b : V × DL.D × PyData => b.2.1), trip_2 hl]
    intro a ha b hb
    rw [PySem.W.dataLe_eq, PySem.W.dataLe_eq]
    simp only
    rw [(trip_mem ha).1, (trip_mem hb).1]
  rw [e]
  exact rpa_of fun b hb => rpa_zip r _ (trip_mem (List.mem_mergeSort.mp hb)).2
theorem cx_sorted (md : Bool) : CXx S (.builtin "sorted") (arg1 (sortedD md)) := by
  refine ⟨⟨rSorted S.K, fun X c => by have z := call_sorted c.calm (hu_of' c); unfold XK at z; rw [c.P, c.w, c.K] at z; exact z, fun W σ vs ds Q k r h => ?_⟩⟩
  obtain ⟨v, d, rfl, rv, h⟩ := arg1_run r h
  have h : Post S W σ (sortedD md d W.M) (PV S Q) := h
  unfold sortedD at h
  cases hs : seqK W.M d with
  | none => rw [hs] at h; exact h.elim
  | some l =>
    simp only [hs] at h
    obtain ⟨ho, h⟩ := post_condO h
    unfold sortOk at ho
    simp only [Bool.and_eq_true] at ho
    obtain ⟨⟨⟨o1, o2⟩, o3⟩, o4⟩ := ho
    obtain ⟨a, xs, rfl, sq, r1⟩ := seqK_run k rv hs
    have hl := r1.length
    obtain ⟨ps, hps⟩ := Option.isSome_iff_exists.mp o1
    refine ⟨a, xs, trip xs l, rfl, sq, (trip_1 hl).symm, ?_, ?_, ?_, fun b hb => ?_, post_new k (sorted_run r1) h⟩
    · rw [trip_3 hl, ← pyL_enc hps]; exact rpa_dp r1 hps
    · rw [trip_3 hl]; exact alikeB_run o2
    · rw [trip_3 hl]; exact sortB_run o3
    · rw [(trip_mem hb).1]
      have hm : b.2.1 ∈ l := (List.of_mem_zip (trip_mem hb).2).2
      simpa using List.all_eq_true.mp o4 _ hm
def lrevD (md : Bool) (d : DL.D) : Mo DL.D := fun M => match res M d with
  | .lst l => finD md l.reverse M
  | _ => none
theorem ex_lrev (md : Bool) {e : Expr} {f : En → Mo DL.D} {p p2 pos pos2 : Pos} (hg : Gs S "list") (hm : S.mg "list" = none) (hg2 : Gs S "reversed") (hm2 : S.mg "reversed" = none) (he : EX S e f)
    (hs : ∀ env : PySem.Env, starEach [e] env = (false, eval e env) :: starEach [] env := by intro; rfl)
    (hs2 : ∀ env : PySem.Env, starEach [.Call (.Name "reversed" p2) [e] [] pos2] env = (false, eval (.Call (.Name "reversed" p2) [e] [] pos2) env) :: starEach [] env := by intro; rfl) :
    EX S (.Call (.Name "list" p) [.Call (.Name "reversed" p2) [e] [] pos2] [] pos) (fun ρ => .bnd (f ρ) (lrevD md)) := by
  obtain ⟨te, e1, e2⟩ := he.ex
  refine ⟨tLstRev S.F te, fun X c => by have z := pe_lstRev (p := p) (p2 := p2) (pos := pos) (pos2 := pos2) c.calm (gl_of c hg) (by rw [c.mg]; exact hm) (gl_of c hg2) (by rw [c.mg]; exact hm2) (e1 X c) (hs X.env) (hs2 X.env); rw [c.K] at z; exact z, fun W σ ρ Q k st h => ?_⟩
  refine e2 W σ ρ _ k st (Post.imp (Post.bnd h) fun d W1 l1 k1 q v rv => ?_)
  have q : Post S W1 σ (lrevD md d W1.M) (PV S Q) := q
  unfold lrevD at q
  split at q
  · rename_i l e
    obtain ⟨a, xs, rfl, s1, r1⟩ := rd_lst k1 rv e
    exact ⟨a, xs, rfl, s1, post_new k1 r1.reverse q⟩
  · exact q.elim
theorem call_listA {X : Cx} (hcalm : X.calm = true) : CallR X (.type "list") (fun vs H Q => ∃ (a : Addr) (xs : List V), vs = [.ref a] ∧ Sq (XK X) H a xs ∧ ∀ p, H p = none → Q (.ref p) (upd H p (.lst xs))) := by
  intro pins s σ H vs us Q I r h
  obtain ⟨a, xs, rfl, hq, q⟩ := h
  rcases hq with hq | hq | ⟨kvs, hq, rfl⟩ | ⟨es, hq, rfl⟩
  · exact call_list_of pins s σ H _ us Q I r ⟨a, xs, rfl, .inl hq, q⟩
  · exact call_list_of pins s σ H _ us Q I r ⟨a, xs, rfl, .inr hq, q⟩
  · exact call_listD hcalm pins s σ H _ us Q I r ⟨a, kvs, rfl, hq, q⟩
  · obtain ⟨u, rfl, rx⟩ := r.one
    cases rx
    obtain ⟨z, lo, o, es', ep, h1, h2, h3, h4, h5⟩ := td_at I hq
    have hl : es'.size = es.length := by
      have := congrArg List.length h4
      simpa using this
    refine PySem.W.kdl_call (kdl_raw lo h2 h3) (I.ok.hd hcalm) h1 (by omega) fun h' tk acc' c' kp e it => ?_
    refine ⟨.ref s.heap.objs.size, _, I.laid (t' := tk) (o := .lst (es.map fun x => V.ref x.2.1)) kp (Nat.le_refl _) ⟨by rw [List.length_map]; exact z, acc'.toList, c', vals_raw h4 it, by rw [Array.toArray_toList]; exact e⟩, rfl, q _ (I.hok.fresh (Nat.le_refl _))⟩
def listA (md : Bool) (d : DL.D) : Mo DL.D := fun M => match seqK M d with
  | some l => finD md l M
  | none => none
theorem cx_listA (md : Bool) : CXx S (.type "list") (arg1 (listA md)) := by
  refine ⟨⟨_, fun X c => by have z := call_listA (X := X) c.calm; unfold XK at z; rw [c.P, c.w, c.K] at z; exact z, fun W σ vs ds Q k r h => ?_⟩⟩
  obtain ⟨v, d, rfl, rv, h⟩ := arg1_run r h
  have h : Post S W σ (listA md d W.M) (PV S Q) := h
  unfold listA at h
  cases hs : seqK W.M d with
  | none => rw [hs] at h; exact h.elim
  | some l =>
    simp only [hs] at h
    obtain ⟨a, xs, rfl, sq, r1⟩ := seqK_run k rv hs
    exact ⟨a, xs, rfl, sq, post_new k r1 h⟩
end
end DL
namespace DL
open PySem PySem.Spec PyProof.Rows L2
abbrev genX (X : Cx) (A : Around) (s : Shared) (H : Hp) (cenv : PySem.Env) (fp : List Addr) : Cx := { X with A := A, s_0 := s, H_0 := H, env := cenv, outer := X.stack, stack := cenv :: X.stack, ex := fp, fn := fun _ => false, pn := [], xe := fun _ _ => False }
section
variable {X : Cx} {pins : List (Addr × Obj)} {σ : L2.St} {H : Hp} {s : Shared}
theorem setGen_bare {s : Shared} {g : Nat} {x : GenState} (h : AllBare s.gens) (hx : x.bare = true) : AllBare (s.setGen g x).gens := fun y hy => by
  have hy : y ∈ s.gens.setIfInBounds g x := hy
  rcases Array.mem_or_eq_of_mem_setIfInBounds hy with h1 | h1
  · exact h y h1
  · rw [h1]; exact hx
theorem Inv_setGen {g : Nat} {x : GenState} (I : Inv X pins σ H s) (hx : x.bare = true) : Inv X pins σ H (s.setGen g x) :=
  ⟨I.ok, I.os, setGen_bare I.bare hx, I.base, I.loc, I.cell, I.free, I.freeC, I.pin, I.hok, I.len⟩
/-- the state in which a generator expression's code begins -/
theorem gen_start {scope : Scope} {own : List (Str × Nat)} {fp : List Addr} {A' : Around} {code it : Value} {bi : Addr} {h' : Heap} {go : Obj} {gs : GenState} {tk : Nat} (I : Inv X pins σ H s) (ok : BlkOk X.N X.env.scope scope own) (hN : X.N.Nodup) (hcell : ∀ y ∈ scope.names, y.2 ≠ .cell) (hfp : ∀ b ∈ fp, FpOk X pins H b ∧ b < s.heap.objs.size)
    (hh : A'.handled = none) (hf : A'.frames = some (genEnv scope (cloFrom X.env.cells scope.names []) s.heap.objs.size code bi X.env :: X.stack)) (hbi : bi = builtinsNs)
    (hn' : h'.Ns s.heap.objs.size (fun y => if y = ".0" then some it else none)) (hs' : Heap.SameBut s.heap.objs.size (s.heap.push { cls := .type "frame", data := .dict #[] }) h') (hgo : ∀ v, go.data ≠ .cell v) (hgf : go.isFreed = false) (hgs : gs.bare = true) :
    Inv (genX X A' s H (genEnv scope (cloFrom X.env.cells scope.names []) s.heap.objs.size code bi X.env) fp) [(h'.objs.size, go)] (wipe σ (own.map (·.2))) H { s with gens := s.gens.push gs, toks := tk, heap := h'.push go } := by
  have hfree : ∀ y ∈ scope.names, y.2 = .free → ∃ c, X.env.cells.lookup y.1 = some c := fun y hy e => by
    rcases ok.free y hy e with k | k
    · exact I.ok.has _ (.inl k)
    · exact I.ok.has _ (.inr k)
  have hsz : h'.objs.size = s.heap.objs.size + 1 := by rw [hs'.1, Heap.size_push]
  have kp : ∀ b o, s.heap.get? b = some o → (h'.push go).get? b = some o := fun b o e => Heap.get?_push_of_some _ (hs'.extBut b o (Nat.ne_of_lt (Heap.lt_size e)) (Heap.get?_push_of_some _ e))
  generalize hcenv : genEnv scope (cloFrom X.env.cells scope.names []) s.heap.objs.size code bi X.env = cenv at hf ⊢
  have hL : cenv.locals = s.heap.objs.size := by rw [← hcenv]; rfl
  have hcl : cenv.cells = cloFrom X.env.cells scope.names [] := by rw [← hcenv]; rfl
  have hsc : cenv.scope = scope := by rw [← hcenv]; rfl
  have cm : ∀ {y c}, (y, c) ∈ cloFrom X.env.cells scope.names [] → X.env.cells.lookup y = some c ∧ c < s.heap.objs.size := fun {y c} hm => by
    rcases cloFrom_mem hm with hm | ⟨h1, rfl⟩
    · cases hm
    · obtain ⟨c, hc⟩ := hfree _ h1 rfl
      rw [hc]
      obtain ⟨w, z⟩ := I.cell _ _ hc
      exact ⟨rfl, z.lt⟩
  have mem : ∀ {y c}, cenv.cells.lookup y = some c → X.env.cells.lookup y = some c ∧ c < s.heap.objs.size := fun {y c} e => by
    rw [hcl] at e
    exact cm (PySem.mem_of_lookup e)
  have look : ∀ {y}, scope.names.lookup y = some .free → ∃ c, cenv.cells.lookup y = some c ∧ X.env.cells.lookup y = some c := fun {y} hl => by
    have hy : (y, NameKind.free) ∈ scope.names := PySem.mem_of_lookup hl
    obtain ⟨c', e'⟩ := mem_lookup (cloFrom_has (cells := X.env.cells) (acc := []) hy)
    rw [← hcl] at e'
    exact ⟨c', e', (mem e').1⟩
  have okB : (genX X A' s H cenv fp).Ok := by
    refine ⟨I.ok.mod, by show cenv.scope.kind = _; rw [hsc]; exact ok.kind, by show cenv.globals = _; rw [← hcenv]; exact I.ok.glob, by show cenv.builtins = _; rw [← hcenv]; exact hbi, by show s.heap.objs.size ≤ cenv.locals; rw [hL]; exact Nat.le_refl _,
      fun y z c e1 e2 => I.ok.inj y z c (mem e1).1 (mem e2).1, fun y hy => ?_, (fun y c z e => by cases z), fun _ => hh, hf, .inr ⟨rfl, (by show cenv.frame = some cenv.locals; rw [← hcenv]; rfl)⟩, fun b hb => ⟨?_, fun y c e z => ?_⟩, I.bs, Nat.le_trans I.ok.bsz I.sz, fun b o e hb => ?_, fun b hb z => ?_, I.stack, I.stkFree⟩
    · have hy : cenv.scope.names.lookup y = some .cell ∨ cenv.scope.names.lookup y = some .free := hy
      rw [hsc] at hy
      rcases hy with hy | hy
      · exact absurd rfl (hcell _ (PySem.mem_of_lookup hy))
      · obtain ⟨c, h1, _⟩ := look hy
        exact ⟨c, h1⟩
    · show b ≠ cenv.locals
      rw [hL]; exact Nat.ne_of_lt (hfp b hb).2
    · exact (hfp b hb).1.2.2.2.2.1 y c (mem e).1 z
    · rcases (hfp b hb).1.2.2.2.1 with z | z
      · exact I.ok.noex b o e z
      · exact absurd (Nat.lt_of_lt_of_le (Heap.lt_size e) (Nat.le_trans I.ok.bsz z)) (Nat.lt_irrefl _)
    · rcases List.mem_cons.mp (I.stkSub b z) with z | z
      · exact (hfp b hb).1.2.1 z
      · exact (hfp b hb).1.2.2.1 z
  refine ⟨okB, rfl, I.bare.push hgs, Un.kept kp, ⟨fun y => if y = ".0" then some it else none, ?_, fun i y av e1 e2 e3 => ?_⟩, fun y c e => ?_, ?_, fun y c e => I.freeC y c (mem e).1, fun p hp => ?_, I.hok.kept kp, by rw [wipe_length]; exact I.len⟩
  · show Heap.Ns _ cenv.locals _
    rw [hL]
    exact hn'.push _
  · obtain ⟨e2, hne⟩ := wipe_some e2
    have hfr : scope.names.lookup y = some .free := by
      have e3 : Vis cenv.scope y := e3
      unfold Vis at e3
      rw [hsc] at e3
      have no : ∀ k, scope.names.lookup y = some k → ¬ (k = .local ∨ k = .cell) := fun k e hh => by
        rcases ok.own _ (PySem.mem_of_lookup e) hh with e' | e'
        · obtain ⟨p, hp, hpy⟩ := List.mem_map.mp e'
          have e3 := ok.ix p hp
          have : p.1 = y := hpy
          rw [this] at e3
          exact hne (List.mem_map.mpr ⟨p, hp, nodup_ix hN e3 e1⟩)
        · exact e' (List.mem_of_getElem? e1)
      rcases e3 with e3 | e3 | e3
      · exact absurd (.inl rfl) (no _ e3)
      · exact absurd (.inr rfl) (no _ e3)
      · exact e3
    obtain ⟨m, hn, hl⟩ := I.loc
    have hvis : Vis X.env.scope y := (ok.free _ (PySem.mem_of_lookup hfr) rfl).elim (fun k => .inr (.inl k)) (fun k => .inr (.inr k))
    obtain ⟨w, r, q⟩ := hl i y av e1 e2 hvis
    refine ⟨w, r, .inr ⟨.inr (by show cenv.scope.names.lookup y = _; rw [hsc]; exact hfr), ?_⟩⟩
    obtain ⟨c, h1, h2⟩ := look hfr
    rcases q with ⟨k, _⟩ | ⟨_, c', e', z⟩
    · have k : X.env.scope.names.lookup y = some .local := k
      rcases ok.free _ (PySem.mem_of_lookup hfr) rfl with k' | k' <;> rw [show X.env.scope.names.lookup y = _ from k'] at k <;> cases k
    · rw [h2] at e'; cases e'
      exact ⟨c, h1, z.keeps kp⟩
  · obtain ⟨w, z⟩ := I.cell y c (mem e).1
    exact ⟨w, z.keeps kp⟩
  · show H cenv.locals = none
    rw [hL]; exact I.hok.fresh (Nat.le_refl _)
  · have hp : p ∈ [(h'.objs.size, go)] := hp
    rw [List.mem_singleton.mp hp]
    refine ⟨Heap.get?_push_size _ hgf, I.hok.fresh (by show s.heap.objs.size ≤ h'.objs.size; omega), ?_, fun hb => ?_, hgo⟩
    · show h'.objs.size ≠ cenv.locals
      rw [hL, hsz]; exact Nat.succ_ne_self _
    · obtain ⟨_, o, ho, _⟩ := I.stack.mem hb
      have h1 : h'.objs.size < s.heap.objs.size := Heap.lt_size ho
      omega
end

section
variable {X : Cx}
/-- the state between two turns: σ, the iterator's place, the generator's own object -/
def GSt (X' : Cx) (a : Addr) (go : Obj) (fp : List Addr) (tn : Nat → Heap → Prop) (σw : L2.St) (i : Nat) (H : Hp) (s : Shared) : Prop := Inv X' [(a, go)] σw H s ∧ tn i s.heap ∧ ∀ b ∈ fp, H b = none
def GFin (X' : Cx) (a : Addr) (go : Obj) (σw : L2.St) (H : Hp) (s : Shared) : Prop := Inv X' [(a, go)] σw H s
def YG (X' : Cx) (a : Addr) (go : Obj) (fp : List Addr) (tn : Nat → Heap → Prop) (σw : L2.St) (al : Bool) (Wv : Nat → Nat → Hp → Prop) (Qs : Hp → Prop) : Protocol := fun n _ v s kap =>
  ∃ c, v = .bool c ∧ ((c = al ∧ ∃ i m H, m < n ∧ Wv i m H ∧ GSt X' a go fp tn σw i H s ∧ ∀ s'', GSt X' a go fp tn σw i H s'' → kap (.send .none) s'') ∨ (c = !al ∧ ∃ H, GFin X' a go σw H s ∧ Qs H))
def RG (X' : Cx) (a : Addr) (go : Obj) (σw : L2.St) (Qe : Hp → Prop) : GenEnd := fun _ _ r s => r = .ok .next ∧ ∃ H, GFin X' a go σw H s ∧ Qe H
theorem seg_gl {X' : Cx} {A0 : Around} {a it : Addr} {go : Obj} {fp : List Addr} {tn : Nat → Heap → Prop} {σw : L2.St} {al : Bool} {Wv : Nat → Nat → Hp → Prop} {Qs Qe : Hp → Prop} {J : It} {elt tg iter : Expr} {ifs : List Expr} {scope : Scope} {pos : Pos} {g : TG} {tt : TT} {te : TE} {vs : List Nat}
    (hA : A0.over (.compLoop (.GeneratorExp elt [⟨tg, iter, ifs, 0⟩] scope pos) 0 (.ref it) .none X'.env) [] = X'.A) (hco : X'.env.scope.isCoroutine = false) (hc : X'.calm = true) (hpn : X'.pn = []) (hxe : X'.xe = fun _ _ => False) (hex : X'.ex = fp) (hafp : a ∉ fp)
    (T : Turn X'.prog X'.w X'.K tg J fp it tn) (pg : PG X' tg g) (pt : PTs X' ifs tt) (pe : PE X' elt te)
    (turn : ∀ i m H, Wv i m H → (J.stop i H ∧ Qe H) ∨ (J.go i H ∧ ∃ Nx : Hp → Prop, (∀ H', Nx H' → ∃ m', m' < m ∧ Wv (i + 1) m' H') ∧ ∀ x H', J.yld i H x H' → g x σw H' fun σ2 H2 => wipe σ2 vs = σw ∧ tt σ2 H2 fun b H3 =>
      if b = true then te σ2 H3 fun y H4 => ∃ c, y = .bl c ∧ ((c = al ∧ Nx H4) ∨ (c = !al ∧ Qs H4)) else Nx H3)) :
    ∀ (m n i : Nat) (H : Hp) (s₀ s : Shared), m < n → Wv i m H → GSt X' a go fp tn σw i H s →
      Seg (model X'.prog X'.w) A0 (RG X' a go σw Qe) (YG X' a go fp tn σw al Wv Qs) n s₀ (.compLoop (.GeneratorExp elt [⟨tg, iter, ifs, 0⟩] scope pos) 0 (.ref it) .none X'.env)
        ((model X'.prog X'.w).den (.compLoop (.GeneratorExp elt [⟨tg, iter, ifs, 0⟩] scope pos) 0 (.ref it) .none X'.env)) [] s := by
  have stat : ∀ {ps : List (Addr × Obj)} {σ' : L2.St} {H' : Hp} {s' : Shared}, Inv X' ps σ' H' s' → (∀ b ∈ fp, H' b = none) → (∀ p ∈ ps, p.1 ∉ fp) → ∀ b ∈ fp, FpOk X' ps H' b := fun {ps σ' H' s'} I' hn hps b hb =>
    ⟨hn b hb, (I'.ok.exf b (hex ▸ hb)).1, I'.ok.exfs b (hex ▸ hb), .inl (hex ▸ hb), fun x c e => (I'.ok.exf b (hex ▸ hb)).2 x c e, fun p hp => by
      rw [hpn] at hp
      exact fun e => hps p hp (e ▸ hb)⟩
  have hps : ∀ p ∈ [(a, go)], p.1 ∉ fp := fun p hp => by rw [List.mem_singleton.mp hp]; exact hafp
  intro m
  induction m using Nat.strongRecOn with
  | ind m ih =>
    intro n i H s₀ s hmn w hst
    obtain ⟨I, st, nf⟩ := hst
    show Seg _ A0 _ _ _ s₀ _ ((compTurn (.GeneratorExp elt [⟨tg, iter, ifs, 0⟩] scope pos) 0 (.ref it) .none X'.env).onRaise (leaving X'.env)) [] s
    rw [compTurn_gen, Sem.onRaise_eq_wrap]
    refine seg_bind_wrap (wpAny_standAt ?_)
    rcases turn i m H w with ⟨stop, qq⟩ | ⟨go', Nx, hNx, step⟩
    · have td := T.done X' rfl rfl rfl hc i _ s _ H (fun _ _ => False) I (stat I nf hps) st stop
      refine seg_bind_wrap ?_
      rw [hA]
      refine thnF td fun r s6 ⟨hr, I6⟩ => ?_
      subst hr
      exact seg_end (.ok .next) ⟨rfl, H, I6, qq⟩
    · have ti := T.item X' rfl rfl rfl hc i _ s _ H (fun _ _ => False) I (stat I nf hps) st go'
      refine seg_bind_wrap ?_
      rw [hA]
      refine thnF ti fun r s6 ⟨u, hr, h6⟩ => ?_
      subst hr
      refine seg_bind_wrap ?_
      rw [hA]
      refine thnF h6 fun _ s7 ⟨x, H7, I7, r7, y7, st7, n7⟩ => ?_
      have I7' := I7.pinned (stat I7 n7 hps) (T.obj _ _ st7)
      refine seg_bind_wrap ?_
      rw [hA]
      refine wpAny_mono (pg.run _ s7 _ H7 x u _ I7' r7 (step x H7 y7)) (fun _ s8 ⟨σ8, H8, I8, hw8, q8⟩ => ?_) fun _ _ z => by rw [hxe] at z; exact z.elim
      refine seg_bind_wrap ?_
      rw [hA]
      refine wpAny_mono (pt.run _ s8 σ8 H8 _ I8 q8) (fun b s9 ⟨H9, I9, q9⟩ => ?_) fun _ _ z => by rw [hxe] at z; exact z.elim
      have fin : ∀ {s' : Shared} {H' : Hp}, Inv X' ([(a, go)] ++ pinsAt fp s7.heap) σ8 H' s' → GSt X' a go fp tn σw (i + 1) H' s' := fun {s' H'} I' => by
        have pin' : ∀ b ∈ fp, ∀ o, s7.heap.get? b = some o → s'.heap.get? b = some o ∧ H' b = none := fun b hb o e =>
          let z := I'.pin (b, o) (List.mem_append_right _ (List.mem_append_right _ (mem_pinsAt hb e)))
          ⟨z.1, z.2.1⟩
        have hl : σw.length = σ8.length := by rw [← hw8, wipe_length]
        refine ⟨(I'.unpinned (pins := [(a, go)])).weak hl (fun j v e => ?_), T.keep _ _ _ st7 fun b hb o e => (pin' b hb o e).1, fun b hb => ?_⟩
        · rw [← hw8] at e
          exact (wipe_some e).1
        · obtain ⟨o, e, _⟩ := T.obj _ _ st7 b hb
          exact (pin' b hb o e).2
      cases b with
      | false =>
        simp only [Bool.false_eq_true, if_false] at q9 ⊢
        obtain ⟨m', hm, w'⟩ := hNx _ q9
        exact seg_again rfl (ih m' hm n (i + 1) H9 s₀ s9 (by omega) w' (fin I9))
      | true =>
        simp only [if_true] at q9 ⊢
        have hy : ∀ v, yieldOut X'.env v = yieldValue v := fun v => by simp only [yieldOut, hco, Bool.false_eq_true, if_false]
        simp only [hy]
        rw [Sem.bind_eq_wrap', Sem.bind_eq_wrap', Sem.wrap_wrap, Sem.wrap_wrap]
        refine seg_wrap ?_
        rw [hA]
        refine wpAny_mono (pe.run _ s9 σ8 H9 _ I9 q9) (fun y s10 ⟨yv, H10, I10, r10, c, ec, q10⟩ => ?_) fun _ _ z => by rw [hxe] at z; exact z.elim
        subst ec
        obtain rfl : y = Value.bool c := r10
        obtain ⟨n', rfl⟩ : ∃ n', n = n' + 1 := ⟨n - 1, by omega⟩
        refine seg_at (seg_yield rfl rfl rfl ⟨c, rfl, ?_⟩)
        rcases q10 with ⟨hcal, nx⟩ | ⟨hcal, qs⟩
        · obtain ⟨m', hm, w'⟩ := hNx _ nx
          exact .inl ⟨hcal, i + 1, m', H10, by omega, w', fin I10, fun s'' hs'' => seg_again rfl (ih m' hm n' (i + 1) H10 s'' s'' (by omega) w' hs'')⟩
        · exact .inr ⟨hcal, H10, (fin I10).1, qs⟩

theorem over_start {A0 : Around} {elt tg iter : Expr} {ifs : List Expr} {scope : Scope} {pos : Pos} {it acc : Value} {cenv : PySem.Env} :
    A0.over (.compStart (.GeneratorExp elt [⟨tg, iter, ifs, 0⟩] scope pos) 0 it acc cenv) [] = A0.over (.compLoop (.GeneratorExp elt [⟨tg, iter, ifs, 0⟩] scope pos) 0 it acc cenv) [] := rfl
theorem seg_gs {X' : Cx} {A0 : Around} {it : Addr} {tn : Nat → Heap → Prop} {J : It} {elt tg iter : Expr} {ifs : List Expr} {scope : Scope} {pos : Pos} {fp : List Addr} {R : GenEnd} {Y : Protocol} {n : Nat} {s₀ s : Shared}
    (T : Turn X'.prog X'.w X'.K tg J fp it tn) (st : tn 0 s.heap)
    (loop : Seg (model X'.prog X'.w) A0 R Y n s₀ (.compLoop (.GeneratorExp elt [⟨tg, iter, ifs, 0⟩] scope pos) 0 (.ref it) .none X'.env) ((model X'.prog X'.w).den (.compLoop (.GeneratorExp elt [⟨tg, iter, ifs, 0⟩] scope pos) 0 (.ref it) .none X'.env)) [] s) :
    Seg (model X'.prog X'.w) A0 R Y n s₀ (.compStart (.GeneratorExp elt [⟨tg, iter, ifs, 0⟩] scope pos) 0 (.ref it) .none X'.env) ((model X'.prog X'.w).den (.compStart (.GeneratorExp elt [⟨tg, iter, ifs, 0⟩] scope pos) 0 (.ref it) .none X'.env)) [] s := by
  show Seg _ A0 _ _ _ s₀ _ ((compStart (.GeneratorExp elt [⟨tg, iter, ifs, 0⟩] scope pos) 0 (.ref it) .none X'.env).onRaise (leaving X'.env)) [] s
  unfold compStart
  rw [Sem.onRaise_eq_wrap]
  show Seg _ A0 _ _ _ s₀ _ ((ask >>= _).wrap _ _ _ _) [] s
  refine seg_bind_wrap (wpAny_askSetting ?_)
  split
  · exact seg_again rfl loop
  · first
      | exact seg_bind_wrap (wpAny_rule (seg_bind_wrap (wpAny_standAt (seg_bind_wrap (T.self _ 0 s _ _ st (seg_again rfl loop))))))
      | (refine seg_bind_wrap (wpAny_rule ?_); show Seg _ A0 _ _ _ s₀ _ ((standAt iter.pos >>= _).wrap _ _ _ _) [] s; exact seg_bind_wrap (wpAny_standAt (seg_bind_wrap (T.self _ 0 s _ _ st (seg_again rfl loop)))))

theorem gst_set {X' : Cx} {a : Addr} {go : Obj} {fp : List Addr} {tn : Nat → Heap → Prop} {σw : L2.St} {i g : Nat} {H : Hp} {s : Shared} {x : GenState} (h : GSt X' a go fp tn σw i H s) (hx : x.bare = true) : GSt X' a go fp tn σw i H (s.setGen g x) := ⟨Inv_setGen h.1 hx, h.2⟩
abbrev genObj (g : Nat) (n q : Value) : Obj := { cls := .type "generator", data := .fields #[.int g 0, n, q] }
/-- which loop -/
def loopId (al : Bool) : String := cond al "all.loop" "any.loop"
theorem loop_run {X' : Cx} {A : Around} {a : Addr} {g : Nat} {go : Obj} {fp : List Addr} {tn : Nat → Heap → Prop} {σw : L2.St} {al : Bool} {Wv : Nat → Nat → Hp → Prop} {Qs Qe : Hp → Prop} {RR : Result → Shared → Prop}
    (hh : A.handled = none) (hroom : A.depth < recursionLimit) (hgo : ∀ h : Heap, h.get? a = some go → h.IsGen a g)
    (hs : ∀ H s, GFin X' a go σw H s → Qs H → RR (.ok (.ret (.bool (!al)))) s) (he : ∀ H s, GFin X' a go σw H s → Qe H → RR (.ok (.ret (.bool al))) s) :
    ∀ (n m i : Nat) (H : Hp) (s : Shared) (gs : GenState), m < n → Wv i m H → GSt X' a go fp tn σw i H s → s.gens[g]? = some gs →
      (∀ s'', GSt X' a go fp tn σw i H s'' → gs.Goes (model X'.prog X'.w) A.in1.in1 (RG X' a go σw Qe) (YG X' a go fp tn σw al Wv Qs) n (.send .none) s'') →
      codeAny (model X'.prog X'.w) A (.builtin (loopId al) ⟨[.ref a], []⟩) RR s := by
  intro n
  induction n with
  | zero => intro m i H s gs hm; omega
  | succ n ih =>
    intro m i H s gs hmn w hst hgs hgoes
    have hl : s.heap.NoLimit := hst.1.nolimit
    have hg : s.heap.IsGen a g := hgo _ (hst.1.pin (a, go) (List.mem_append_right _ (List.mem_singleton.mpr rfl))).1
    have hlt : g < s.gens.size := by
      rcases Nat.lt_or_ge g s.gens.size with h' | h'
      · exact h'
      · rw [Array.getElem?_eq_none h'] at hgs; cases hgs
    have next : ∀ {E : Value → Shared → Prop} {Q : Option Value → Shared → Prop},
        (∀ c s₁ gs', (c = al ∧ ∃ i m H, m < n ∧ Wv i m H ∧ GSt X' a go fp tn σw i H s₁ ∧ s₁.gens[g]? = some gs' ∧ ∀ s'', GSt X' a go fp tn σw i H s'' → gs'.Goes (model X'.prog X'.w) A.in1.in1 (RG X' a go σw Qe) (YG X' a go fp tn σw al Wv Qs) n (.send .none) s'') ∨ (c = !al ∧ ∃ H, GFin X' a go σw H s₁ ∧ Qs H) → Q (some (.bool c)) s₁) →
        (∀ H s₁, GFin X' a go σw H s₁ → Qe H → Q none s₁) → wpAny (model X'.prog X'.w) A.in1 (pyNext (.ref a)) Q E s := fun {E Q} hq hn => by
      refine GenW.wpAny_gsz (n := g + 1) hlt (wpAny_pyNext_genexpQ (A := A.in1) (P := fun _ _ s₁ => ∃ H, GFin X' a go σw H s₁ ∧ Qe H) (Y := YG X' a go fp tn σw al Wv Qs) hh hl hroom hg hgs (hgoes _ (gst_set hst rfl)) (fun v s₁ gs' hb hv hsz => ?_) (fun s₁ hp h' hk hsz => ?_))
      · obtain ⟨c, rfl, hv⟩ := hv
        refine hq c _ gs' ?_
        rcases hv with ⟨hc, i', m', H', h1, h2, h3, h4⟩ | ⟨hc, H', h1, h2⟩
        · refine .inl ⟨hc, i', m', H', h1, h2, gst_set h3 hb, ?_, h4⟩
          have hsz : g + 1 ≤ (s₁.setGen g gs').gens.size := hsz
          rw [GenW.setGen_size] at hsz
          show (s₁.gens.setIfInBounds g gs')[g]? = _
          simp [show g < s₁.gens.size from hsz]
        · exact .inr ⟨hc, H', Inv_setGen h1 hb, h2⟩
      · obtain ⟨H', h1, h2⟩ := hp
        refine hn H' _ ?_ h2
        have J : Inv X' [(a, go)] σw H' (s₁.setGen g .finished) := Inv_setGen h1 rfl
        exact J.kept (t' := s₁.toks) hk
    cases al with
    | true =>
      show codeAny _ A (.builtin "all.loop" ⟨[.ref a], []⟩) RR s
      refine codeAny_builtin F.entry_all_loop ?_
      rw [Around.under_plainId F.plain_all_loop _]
      show wpAny _ A.in1 (pyNext (.ref a) >>= _) _ _ s
      refine wpAny_bind (next (fun c s₁ gs' hv => ?_) fun H' s₁ h1 h2 => ?_)
      · refine wpAny_bind (wpAny_holding (wpAny_truthy_bool ?_))
        refine wpAny_bind (wpAny_letGo ?_)
        rcases hv with ⟨rfl, i', m', H', h1, h2, h3, h4, h5⟩ | ⟨rfl, H', h1, h2⟩
        · simp only [if_true]
          exact wpAny_pure ⟨plainId_quiet F.plain_all_loop _, ih m' i' H' _ gs' h1 h2 h3 h4 h5⟩
        · simp only [Bool.not_true, Bool.false_eq_true, if_false]
          exact wpAny_bind (wpAny_rule (wpAny_pure (hs H' _ h1 h2)))
      · exact wpAny_bind (wpAny_rule (wpAny_pure (he H' _ h1 h2)))
    | false =>
      show codeAny _ A (.builtin "any.loop" ⟨[.ref a], []⟩) RR s
      refine codeAny_builtin F.entry_any_loop ?_
      rw [Around.under_plainId F.plain_any_loop _]
      show wpAny _ A.in1 (pyNext (.ref a) >>= _) _ _ s
      refine wpAny_bind (next (fun c s₁ gs' hv => ?_) fun H' s₁ h1 h2 => ?_)
      · refine wpAny_bind (wpAny_holding (wpAny_truthy_bool ?_))
        refine wpAny_bind (wpAny_letGo ?_)
        rcases hv with ⟨rfl, i', m', H', h1, h2, h3, h4, h5⟩ | ⟨rfl, H', h1, h2⟩
        · simp only [Bool.false_eq_true, if_false]
          exact wpAny_pure ⟨plainId_quiet F.plain_any_loop _, ih m' i' H' _ gs' h1 h2 h3 h4 h5⟩
        · simp only [Bool.not_false, if_true]
          exact wpAny_bind (wpAny_rule (wpAny_pure (hs H' _ h1 h2)))
      · exact wpAny_bind (wpAny_rule (wpAny_pure (he H' _ h1 h2)))

def tGen (al : Bool) (P : Addr) (wi : TI) (g : TG) (tt : TT) (te : TE) (vs : List Nat) : TE := fun σ H Q => wi σ H fun J H1 => GxR.TabG H1 P ∧ ∀ H2, GxR.Tabbed P H1 H2 → ∃ Wv : Nat → Nat → Hp → Prop, (∃ m, Wv 0 m H2) ∧ ∀ i m H, Wv i m H →
  (J.stop i H ∧ Q (.bl al) H) ∨ (J.go i H ∧ ∃ Nx : Hp → Prop, (∀ H', Nx H' → ∃ m', m' < m ∧ Wv (i + 1) m' H') ∧ ∀ x H', J.yld i H x H' → g x (wipe σ vs) H' fun σ2 H2 => wipe σ2 vs = wipe σ vs ∧ tt σ2 H2 fun b H3 =>
    if b = true then te σ2 H3 fun y H4 => ∃ c, y = .bl c ∧ ((c = al ∧ Nx H4) ∨ (c = !al ∧ Q (.bl (!al)) H4)) else Nx H3)
def loopB (al : Bool) : String := cond al "all" "any"
theorem call_gen {A : Around} {al : Bool} {a : Addr} {Q : Value → Shared → Prop} {E : Value → Shared → Prop} {s : Shared} {prog : Program} {w : World} {g : Nat} (hg : s.heap.IsGen a g)
    (h : codeAny (model prog w) A (.builtin (loopId al) ⟨[.ref a], []⟩) (fun r s' => match r with | .ok (.ret v) => Q v s' | _ => False) s) : wpAny (model prog w) A (call (.builtin (loopB al)) [.ref a]) Q E s := by
  have h : codeAny (model prog w) A (.builtin (loopId al) ⟨[.ref a], []⟩) (fun r s' => match r with | .ok (.ret v) => Q v s' | .ok _ => False | .error e => E e s') s := codeAny_mono h fun r s' z => by
    cases r with
    | error x => exact z.elim
    | ok f => cases f with
      | ret v => exact z
      | _ => exact z.elim
  cases al with
  | true =>
    show wpAny _ A (call (.builtin "all") [.ref a]) Q E s
    refine call_function_tree F.kind_all F.plain_all F.entry_all (F.args_all1 _) ?_
    unfold Builtin.«all»
    refine wpAny_bind (m := oneArg "all" _) (wpAny_pure ?_)
    refine wpAny_bind (wpAny_pyIter_gen hg ?_)
    exact wpAny_pure ⟨plainId_quiet F.plain_all_loop _, h⟩
  | false =>
    show wpAny _ A (call (.builtin "any") [.ref a]) Q E s
    refine call_function_tree F.kind_any F.plain_any F.entry_any (F.args_any1 _) ?_
    unfold Builtin.«any»
    refine wpAny_bind (m := oneArg "any" _) (wpAny_pure ?_)
    refine wpAny_bind (wpAny_pyIter_gen hg ?_)
    exact wpAny_pure ⟨plainId_quiet F.plain_any_loop _, h⟩

theorem pe_gen {al : Bool} {c P : Addr} {k : Nat} {nm : Str} {elt tg iter : Expr} {ifs : List Expr} {scope : Scope} {own : List (Str × Nat)} {p pos gpos : Pos} {wi : TI} {g : TG} {tt : TT} {te : TE}
    (hr : Room (k + 1) X.A) (hcalm : X.calm = true) (hN : X.N.Nodup) (hg : Gl X nm) (hm : X.mg nm = none) (hb : bootBuiltins nm = some (.builtin (loopB al))) (TB : GxR.TabB X.base X.mg c P) (hcode : X.env.code = .ref c) (ok : BlkOk X.N X.env.scope scope own)
    (hcell : ∀ y ∈ scope.names, y.2 ≠ .cell) (h0 : scope.names.lookup (".0" : Str) = some NameKind.local) (hco : scope.isCoroutine = false) (hi : PI X tg iter wi)
    (hg' : ∀ (A : Around) (s : Shared) (H : Hp) (cenv : PySem.Env) (fp : List Addr), Room k A → cenv.scope = scope → PG (genX X A s H cenv fp) tg g)
    (ht : ∀ (A : Around) (s : Shared) (H : Hp) (cenv : PySem.Env) (fp : List Addr), Room k A → cenv.scope = scope → PTs (genX X A s H cenv fp) ifs tt)
    (he : ∀ (A : Around) (s : Shared) (H : Hp) (cenv : PySem.Env) (fp : List Addr), Room k A → cenv.scope = scope → PE (genX X A s H cenv fp) elt te)
    (hs : ∀ v, genFold iter X.env v = pure v) (hn : nm ≠ "__name__" := by decide) (hdb : (nm == ("__debug__" : Str)) = false := by decide)
    (hst : starEach [.GeneratorExp elt [⟨tg, iter, ifs, 0⟩] scope gpos] X.env = (false, eval (.GeneratorExp elt [⟨tg, iter, ifs, 0⟩] scope gpos) X.env) :: starEach [] X.env := by rfl) :
    PE X (.Call (.Name nm p) [.GeneratorExp elt [⟨tg, iter, ifs, 0⟩] scope gpos] [] pos) (tGen al P wi g tt te (own.map (·.2))) := by
  refine ⟨fun pins s σ H Q I h => ?_⟩
  have hfree : ∀ y ∈ scope.names, y.2 = .free → ∃ c, X.env.cells.lookup y.1 = some c := fun y hy e => by
    rcases ok.free y hy e with k | k
    · exact I.ok.has _ (.inl k)
    · exact I.ok.has _ (.inr k)
  have hroom : X.A.depth < recursionLimit := by have := hr.dp; omega
  refine wpAny_Call_Name_kw (ld_blt I hg hm hb ?_ hn hdb)
  refine PyProof.Rows.callWith_builtin1 ?_ hst (by rfl)
  rw [hst]
  show wpAny _ _ (spliced ((false, eval (.GeneratorExp elt [⟨tg, iter, ifs, 0⟩] scope gpos) X.env) :: backTo pos (starEach [] X.env))) _ _ s
  refine Calls.spliced_cons (wpAny_GeneratorExp_make hco (closure_ok hfree) hcell h0 ok.kind hroom ?_ hs)
  refine thn (hi.run pins s σ H _ I h) fun xv s1 hx => thn hx fun itv s2 h2 => ?_
  obtain ⟨it, fp, tn, J, H2, rfl, I2, T, st2, f2, ⟨ps, hP, htr⟩, q⟩ := h2
  refine ⟨I2.nolimit, ?_⟩
  have hPs : s2.heap.get? P = some { cls := .none, data := .fields ps } := I2.hok P _ hP
  have cd : PySem.W.CodeHd s2.heap c P := TB.code.keeps fun b u e => I2.bk b u e
  have hne : ∀ b ∈ fp, b ≠ P := fun b hb e => by
    have := (f2 b hb).1
    rw [e, hP] at this; cases this
  have sz2 : ∀ b ∈ fp, b < s2.heap.objs.size := fun b hb => by
    obtain ⟨o, e, _⟩ := T.obj _ _ st2 b hb
    exact Heap.lt_size e
  have cont : ∀ (code : Value) (h3 : Heap) (tk : Nat) (ps' : Array Value), Heap.ExtBut P s2.heap h3 → s2.heap.objs.size ≤ h3.objs.size → h3.get? P = some { cls := .none, data := .fields ps' } → (∃ more, ps' = ps ++ more) → TriplesOk ps'.toList →
      wpAny (model X.prog X.w) X.A (builtinsFor X.env.globals X.env.builtins) (fun bi s₄ => ∀ h', h'.Ns s₄.heap.objs.size (fun y => if y = ".0" then some (Value.ref it) else none) → Heap.SameBut s₄.heap.objs.size (s₄.heap.push { cls := .type "frame", data := .dict #[] }) h' →
          wpAny (model X.prog X.w) X.A (spliced (backTo pos (starEach [] X.env))) (fun vs s' => wpAny (model X.prog X.w) X.A (call (.builtin (loopB al)) (.ref h'.objs.size :: vs)) (EP X pins σ Q) X.xe s') X.xe { s₄ with
            gens := s₄.gens.push (.fresh (.compStart (.GeneratorExp elt [⟨tg, iter, ifs, 0⟩] scope gpos) 0 (.ref it) .none (genEnv scope (cloFrom X.env.cells scope.names []) s₄.heap.objs.size code bi X.env))),
            toks := s₄.toks + 1 + 1 + 1,
            heap := h'.push { cls := .type "generator", data := .fields #[.int s₄.gens.size 0, .str "<genexpr>" (s₄.toks + 1), .str (X.env.qual ++ "<genexpr>") (s₄.toks + 1 + 1)] } }) X.xe { s2 with heap := h3, toks := tk } := by
    intro code h3 tk ps' hx hsz hP3 ⟨more, hmore⟩ ht3
    subst hmore
    have I3 : Inv X pins σ (upd H2 P (.tbl (ps ++ more))) { s2 with heap := h3, toks := tk } := GxR.inv_tab (g' := s2.gens) (d' := s2.drawn) (t' := tk) I2 hP (fun b o hb e => hx b o hb e) hP3 I2.bare
    obtain ⟨Wv, ⟨m0, w0⟩, turn⟩ := q _ ⟨⟨ps ++ more, upd_same, ht3⟩, fun b hb => upd_ne hb⟩
    generalize hH3 : upd H2 P (.tbl (ps ++ more)) = H3 at I3 w0
    generalize hs3 : ({ s2 with heap := h3, toks := tk } : Shared) = s3 at I3 ⊢
    have h3e : s3.heap = h3 := by rw [← hs3]
    have f3 : ∀ b ∈ fp, FpOk X pins H3 b ∧ b < s3.heap.objs.size := fun b hb => by
      refine ⟨⟨?_, (f2 b hb).2⟩, by rw [h3e]; exact Nat.lt_of_lt_of_le (sz2 b hb) hsz⟩
      rw [← hH3, upd_ne (hne b hb)]
      exact (f2 b hb).1
    have st3 : tn 0 s3.heap := T.keep _ _ _ st2 fun b hb o e => by rw [h3e]; exact hx b o (hne b hb) e
    obtain ⟨bm, ob, e1, e2, e3, e4, e5, e6, e7, e8⟩ := TB.bm
    refine wpAny_builtinsFor (m := X.mg) (by rw [I3.ok.glob]; exact I3.mod.glob.keeps I3.bk) e1 e2 (I3.bk _ _ e5) e6 e7 e8 ?_
    intro h' hn' hs'
    refine Calls.spliced_nil ?_
    have hsz' : h'.objs.size = s3.heap.objs.size + 1 := by rw [hs'.1, Heap.size_push]
    generalize hce : genEnv scope (cloFrom X.env.cells scope.names []) s3.heap.objs.size code builtinsNs X.env = cenv
    generalize hAg : X.A.in1.in1.over (.compLoop (.GeneratorExp elt [⟨tg, iter, ifs, 0⟩] scope gpos) 0 (.ref it) .none cenv) [] = Ag
    have hrg : Room k Ag := by
      rw [← hAg]
      refine ⟨hr.hd, ?_, ?_⟩
      · have := hr.dp
        show X.A.depth + 0 + 1 + 3 * k + 5 < recursionLimit
        omega
      · have := hr.un
        show X.A.units + 1 + 1 + 0 + 3 + 16 * k + 200 < cLine
        omega
    have J0 := gen_start (A' := Ag) (code := code) (it := .ref it) (bi := builtinsNs) (h' := h') (tk := s3.toks + 1 + 1 + 1) (go := { cls := .type "generator", data := .fields #[.int s3.gens.size 0, .str "<genexpr>" (s3.toks + 1), .str (X.env.qual ++ "<genexpr>") (s3.toks + 1 + 1)] })
      (gs := .fresh (.compStart (.GeneratorExp elt [⟨tg, iter, ifs, 0⟩] scope gpos) 0 (.ref it) .none cenv)) I3 ok hN hcell f3 hrg.hd (by
        rw [hce, ← hAg]
        show pushEnvs [cenv] (pushEnvs [] X.A.frames) = _
        rw [I3.ok.frames]; rfl) rfl hn' hs' (by intro v z; cases z) rfl rfl
    rw [hce] at J0
    have back : ∀ {ps : List (Addr × Obj)} {σ' : L2.St} {H' : Hp} {s' : Shared}, Inv (genX X Ag s3 H3 cenv fp) ps σ' H' s' → Inv X pins σ H' s' := fun {ps σ' H' s'} J =>
      I3.call' (ch := fp) J.os J.base J.hok J.bare fun b hb => ⟨(f3 b hb).1.2.2.2.1, (f3 b hb).1.2.1, (f3 b hb).1.2.2.2.2.1, (f3 b hb).1.2.2.2.2.2⟩
    have hafp : h'.objs.size ∉ fp := fun hb => by
      have h1 : h'.objs.size < s3.heap.objs.size := (f3 _ hb).2
      omega
    have keep5 : ∀ b o, s3.heap.get? b = some o → (h'.push { cls := .type "generator", data := .fields #[.int s3.gens.size 0, .str "<genexpr>" (s3.toks + 1), .str (X.env.qual ++ "<genexpr>") (s3.toks + 1 + 1)] }).get? b = some o := fun b o e => Heap.get?_push_of_some _ (hs'.extBut b o (Nat.ne_of_lt (Heap.lt_size e)) (Heap.get?_push_of_some _ e))
    have cs : cenv.scope = scope := by rw [← hce]; rfl
    have st0 : GSt (genX X Ag s3 H3 cenv fp) h'.objs.size { cls := .type "generator", data := .fields #[.int s3.gens.size 0, .str "<genexpr>" (s3.toks + 1), .str (X.env.qual ++ "<genexpr>") (s3.toks + 1 + 1)] } fp tn (wipe σ (own.map (·.2))) 0 H3 _ :=
      ⟨J0, T.keep _ _ _ st3 fun b hb o e => keep5 b o e, fun b hb => (f3 b hb).1.1⟩
    refine call_gen (g := s3.gens.size) ⟨_, _, _, Heap.get?_push_size _ rfl, rfl, rfl, rfl⟩ ?_
    refine loop_run (X' := genX X Ag s3 H3 cenv fp) (A := X.A) (g := s3.gens.size) (Wv := Wv) (Qs := fun H => Q (.bl (!al)) H) (Qe := fun H => Q (.bl al) H) hr.hd hroom (fun h e => ⟨_, _, _, e, rfl, rfl, rfl⟩)
      (fun H' s' J q => ⟨.bl (!al), H', back J, rfl, q⟩) (fun H' s' J q => ⟨.bl al, H', back J, rfl, q⟩) (m0 + 1) m0 0 H3 _ _ (Nat.lt_succ_self _) w0 st0 (Array.getElem?_push_size ..) fun s'' hst'' => ⟨rfl, ?_⟩
    refine seg_gs (X' := genX X Ag s3 H3 cenv fp) T hst''.2.1 ?_
    exact seg_gl (X' := genX X Ag s3 H3 cenv fp) (vs := own.map (·.2)) hAg (by show cenv.scope.isCoroutine = false; rw [cs]; exact hco) hcalm rfl rfl rfl hafp T (hg' _ _ _ _ _ hrg cs) (ht _ _ _ _ _ hrg cs) (he _ _ _ _ _ hrg cs) turn m0 (m0 + 1) 0 H3 s'' s'' (Nat.lt_succ_self _) w0 hst''
  cases hf : codeAmong gpos ps.toList with
  | none =>
    refine wpAny_genexprCodeX hcode (cd.code hPs htr) (cd.tab hPs) hf fun c' h' tk hx hge hlt hco' _ htab' _ => ?_
    obtain ⟨o1, vs, f1, tf, fl, tg, inF, tx, tt, op, _, _, _, _, _, _, _, _, _, htr', _⟩ := hco'
    exact cont _ h' tk _ hx (Nat.le_trans hge (Nat.le_of_lt hlt)) htab'.2 ⟨_, rfl⟩ htr'
  | some cv =>
    refine wpAny_genexprCode_hit hcode (cd.code hPs htr) hf ?_
    exact cont cv s2.heap s2.toks ps (Heap.ExtBut.refl _ _) (Nat.le_refl _) hPs ⟨#[], by simp⟩ htr
end
end DL
namespace DL
open PySem PySem.Spec PyProof.Rows L2
def SC.gen (S : SC) (scope : Scope) : SC := { S with sc := scope, df := false, fnc := fun _ => false, W := fun _ _ _ _ => False, k := S.k - 1, code := none }
theorem InC.gen {S : SC} {X : Cx} (c : InC S X) (scope : Scope) {A : Around} {s : Shared} {H : Hp} {cenv : PySem.Env} {fp : List Addr} (hr : Room (S.k - 1) A) (hs : cenv.scope = scope) : InC (S.gen scope) (genX X A s H cenv fp) where
  P := c.P
  w := c.w
  K := c.K
  mg := c.mg
  base := c.base
  N := c.N
  sc := hs
  calm := c.calm
  room := hr
  takes := fun u s' ⟨a, B, sI, pins, σ, H, cls, d, e, I, nb, up, sky, na, os, ag, w⟩ => w
  own := by intro h; cases h
  stk := by intro h; cases h
  fn := by intro x h; cases h
  code := by intro v h; cases h
section
variable {K : KP} {W : Wd} {P : Addr} {H2 : Hp}
def Wd.tab (W : Wd) (H2 : Hp) : Wd := { W with H := H2 }
theorem le_tab (k : Ok K W) (hP : P ∈ K.tabs) (t : GxR.Tabbed P W.H H2) : Le K W (W.tab H2) := by
  obtain ⟨⟨ps, e0, _⟩, t1, t2⟩ := k.tb P hP
  have hr : ∀ {a : Addr} {u : HO}, HO.live u = true ∨ (∃ ys, u = .tup ys) → Rd W.H a u → Rd H2 a u := fun {a u} hu h => by
    have hne : a ≠ P := fun q => by
      subst q
      rcases h with h | ⟨o, h⟩ <;> rw [e0] at h <;> cases h
      rcases hu with hu | ⟨ys, hu⟩ <;> cases hu
    rcases h with h | ⟨o, h⟩
    · exact .inl (by rw [t.2 a hne]; exact h)
    · exact .inr ⟨o, by rw [t.2 a hne]; exact h⟩
  refine ⟨fun _ _ h => h, fun a xs h => ?_, fun a xs h f => ⟨hr (.inl rfl) h, f⟩, fun a xs h f => ⟨hr (.inl rfl) h, f⟩, fun a xs h f => ⟨hr (.inl rfl) h, f⟩, fun a o u h => ?_, fun a h => ⟨h, t.2 a fun q => t2 (q ▸ h)⟩⟩
  · rcases h with h | h
    · exact .inl (hr (.inr ⟨_, rfl⟩) h)
    · exact .inr h
  · show H2 a = _
    rw [t.2 a fun q => by rw [q, e0] at h; cases h]
    exact h
theorem Ok.tab (k : Ok K W) (hP : P ∈ K.tabs) (t : GxR.Tabbed P W.H H2) : Ok K (W.tab H2) := by
  obtain ⟨t0, t1, t2⟩ := k.tb P hP
  refine ⟨k.len, k.nd, fun n a o h1 h2 => (k.ob n a o h1 h2).mono (le_tab k hP t) (t.2 a fun q => t1 (q ▸ List.mem_of_getElem? h1)), k.pn, fun a h => ?_, fun a h => ?_⟩
  · obtain ⟨u, e⟩ := k.ph a h
    exact ⟨u, (t.2 a fun q => t2 (q ▸ h)).trans e⟩
  · obtain ⟨u0, u1, u2⟩ := k.tb a h
    refine ⟨?_, u1, u2⟩
    by_cases q : a = P
    · rw [q]; exact t.1
    · obtain ⟨ps, e, z⟩ := u0
      exact ⟨ps, (t.2 a q).trans e, z⟩
end
noncomputable def genL (al : Bool) (g : Option (Nat × O)) (turn : DL.D → Mo (Option Bool)) : List DL.D → Mo Bool
  | [] => guardM g (Mo.ret al)
  | d :: r => guardM g (Mo.bnd (turn d) fun o => match o with
    | some c => cond (c == al) (genL al g turn r) (Mo.ret (!al))
    | none => genL al g turn r)
def blD (y : DL.D) : Mo (Option Bool) := match y with
  | .bl c => Mo.ret (some c)
  | _ => Mo.stuck
def turnG (ρ : En) (h : DL.D → En → Mo En) (c : En → Mo Bool) (e : En → Mo DL.D) (d : DL.D) : Mo (Option Bool) := .bnd (h d ρ) fun ρ1 => .bnd (c ρ1) fun b => cond b (.bnd (e ρ1) blD) (.ret none)
def genD (m : Mo Bool) : Mo DL.D := .bnd m.ne fun b => .ret (.bl b)
section
variable {S : SC}
theorem genD_inv {W : Wd} {σ : L2.St} {m : Mo Bool} {Q : VK} (h : Post S W σ (genD m W.M) (PV S Q)) : ∃ b M', m W.M = some (.ok b, M') ∧ ∀ W', Le S.K W W' → Ok S.K W' → W'.M = M' → Q (.bl b) W'.H := by
  unfold genD Mo.bnd Mo.ne at h
  cases e : m W.M with
  | none => simp only [e] at h; exact h.elim
  | some p =>
    obtain ⟨r, M1⟩ := p
    cases r with
    | error x => simp only [e] at h; exact h.elim
    | ok b =>
      simp only [e] at h
      exact ⟨b, M1, rfl, fun W' l k m => h W' l k m _ (.bl b)⟩
theorem ex_gen (al : Bool) {c P : Addr} {nm : Str} {elt tg iter : Expr} {ifs : List Expr} {scope : Scope} (own : List (Str × Nat)) {p pos gpos : Pos} {f : En → Mo Itd'} {h : DL.D → En → Mo En} {c' : En → Mo Bool} {e : En → Mo DL.D}
    (hk : 1 ≤ S.k) (hN : S.N.Nodup) (hg : Gs S nm) (hm : S.mg nm = none) (hb : bootBuiltins nm = some (.builtin (loopB al))) (TB : GxR.TabB S.base S.mg c P) (hcode : S.code = some (.ref c)) (hP : P ∈ S.cs.map (·.2)) (ok : BlkOk S.N S.sc scope own)
    (hcell : ∀ y ∈ scope.names, y.2 ≠ .cell) (h0 : scope.names.lookup (".0" : Str) = some NameKind.local) (hco : scope.isCoroutine = false)
    (hi : IX S tg iter f) (hgv : GV (S.gen scope) (own.map (·.2)) tg h) (ht : TXs (S.gen scope) ifs c') (he : EX (S.gen scope) elt e)
    (hs : ∀ (env : PySem.Env) v, genFold iter env v = pure v := by intro _ _; rfl) (hn : nm ≠ "__name__" := by decide) (hdb : (nm == ("__debug__" : Str)) = false := by decide)
    (hst : ∀ env : PySem.Env, starEach [.GeneratorExp elt [⟨tg, iter, ifs, 0⟩] scope gpos] env = (false, eval (.GeneratorExp elt [⟨tg, iter, ifs, 0⟩] scope gpos) env) :: starEach [] env := by intro; rfl) :
    EX S (.Call (.Name nm p) [.GeneratorExp elt [⟨tg, iter, ifs, 0⟩] scope gpos] [] pos) (fun ρ => .bnd (f ρ) fun it => genD (genL al it.gd (turnG (wipeR ρ (own.map (·.2))) h c' e) it.items)) := by
  obtain ⟨wi, i1, i2⟩ := hi.ex
  obtain ⟨g, g1, g2⟩ := hgv.ex
  obtain ⟨tt, t1, t2⟩ := ht.ex
  obtain ⟨te, e1, e2⟩ := he.ex
  refine ⟨tGen al P wi g tt te (own.map (·.2)), fun X c => pe_gen (k := S.k - 1) (by have := c.room; rw [show S.k - 1 + 1 = S.k by omega]; exact this) c.calm (by rw [c.N]; exact hN) (gl_of c hg) (by rw [c.mg]; exact hm) hb (by rw [c.base, c.mg]; exact TB) (c.code _ hcode) (by rw [c.N, c.sc]; exact ok) hcell h0 hco (i1 X c)
    (fun A s H cenv fp hr hs => g1 _ (c.gen scope hr hs)) (fun A s H cenv fp hr hs => t1 _ (c.gen scope hr hs)) (fun A s H cenv fp hr hs => e1 _ (c.gen scope hr hs)) (hs X.env) hn hdb (hst X.env), fun W σ ρ Q k st hh => ?_⟩
  refine i2 W σ ρ _ k st (Post.imp (Post.bnd hh) fun it W1 l1 k1 q J hJ => ?_)
  have hPk : P ∈ S.K.tabs := hP
  refine ⟨(k1.tb P hPk).1, fun H2 tb => ?_⟩
  have lt := le_tab k1 hPk tb
  have kt := k1.tab hPk tb
  obtain ⟨b, M', hl, q⟩ := genD_inv q
  refine ⟨fun i m H' => m = it.items.length - i ∧ i ≤ it.items.length ∧ ∃ W2, Le S.K W1 W2 ∧ Ok S.K W2 ∧ W2.H = H' ∧ genL al it.gd (turnG (wipeR ρ (own.map (·.2))) h c' e) (it.items.drop i) W2.M = some (.ok b, M'),
    ⟨_, rfl, Nat.zero_le _, W1.tab H2, lt, kt, rfl, hl⟩, ?_⟩
  rintro i m H' ⟨rfl, hi, W2, l2, k2, rfl, hc⟩
  by_cases hlt : i < it.items.length
  · rw [List.drop_eq_getElem_cons hlt] at hc
    obtain ⟨hgd, hc⟩ := guard_ok hc
    obtain ⟨o, M3, hturn, hrest⟩ := bnd_ok hc
    obtain ⟨go, yl⟩ := (hJ.2 W2 l2.toZ k2 hgd).1 i hlt
    refine .inr ⟨go, fun H3 => ∃ W3, Le S.K W1 W3 ∧ Ok S.K W3 ∧ W3.H = H3 ∧ genL al it.gd (turnG (wipeR ρ (own.map (·.2))) h c' e) (it.items.drop (i + 1)) W3.M = some (.ok b, M'), ?_, ?_⟩
    · rintro H3 ⟨W3, a1, a2, a3, a4⟩
      exact ⟨_, by omega, rfl, hlt, W3, a1, a2, a3, a4⟩
    · intro x H' hy
      obtain ⟨W3, l3, k3, m3, rfl, d, hd, rd⟩ := yl x H' hy
      have hd' : d = it.items[i] := by
        rw [List.getElem?_eq_getElem hlt] at hd
        exact (Option.some.inj hd).symm
      subst hd'
      obtain ⟨ρ1, M4, q1, hturn⟩ := bnd_ok hturn
      obtain ⟨b', M5, q2, hturn⟩ := bnd_ok hturn
      rw [← m3] at q1
      have l13 := l2.trans l3
      have st3 : StR S.K W3 (wipe σ (own.map (·.2))) (wipeR ρ (own.map (·.2))) := ((st.mono l1).mono l13).wipe _
      refine g2 W3 _ _ x _ _ k3 st3 rd (post0_of q1 fun W4 l4 k4 m4 σ4 st4 hw => ⟨hw.trans (wipe_ext (wipe_length _ _) fun j hj => wipe_out hj), ?_⟩)
      rw [← m4] at q2
      refine t2 W4 σ4 ρ1 _ k4 st4 (post_of q2 fun W5 l5 k5 m5 => ?_)
      have l15 : Le S.K W1 W5 := (l13.trans l4).trans l5
      cases b' with
      | false =>
        obtain ⟨rfl, rfl⟩ := ret_ok hturn
        exact ⟨W5, l15, k5, rfl, by rw [m5]; exact hrest⟩
      | true =>
        rw [if_pos rfl]
        obtain ⟨y, M6, q3, q4⟩ := bnd_ok (m := e ρ1) hturn
        rw [← m5] at q3
        refine e2 W5 σ4 ρ1 _ k5 (st4.mono l5) (post_of q3 fun W6 l6 k6 m6 v rv => ?_)
        cases y with
        | bl z =>
          obtain ⟨rfl, rfl⟩ := ret_ok q4
          cases rv
          refine ⟨z, rfl, ?_⟩
          by_cases hz : z = al
          · subst hz
            simp only [beq_self_eq_true, cond_true] at hrest
            exact .inl ⟨rfl, W6, l15.trans l6, k6, rfl, by rw [m6]; exact hrest⟩
          · have hz' : (z == al) = false := by simpa using hz
            simp only [hz', cond_false] at hrest
            obtain ⟨rfl, rfl⟩ := ret_ok hrest
            exact .inr ⟨by cases z <;> cases al <;> simp_all, q W6 (l15.trans l6) k6 m6⟩
        | _ => cases q4
  · have e : i = it.items.length := by omega
    subst e
    rw [List.drop_length] at hc
    obtain ⟨hgd, hc⟩ := guard_ok hc
    obtain ⟨rfl, rfl⟩ := ret_ok hc
    exact .inl ⟨(hJ.2 W2 l2.toZ k2 hgd).2, q W2 l2 k2 rfl⟩
end
end DL
namespace DL
open PySem PySem.Spec PyProof.Rows L2
/-- one turn of a clause; mk: what is done with an item that passes, ahead of the next turn -/
def turnOf (tg iter : Expr) (ifs : List Expr) (env : PySem.Env) (it : Value) (mk : Sem PySem.Fin → Sem PySem.Fin) (nxt : Sem PySem.Fin) : Sem PySem.Fin :=
  standAt iter.pos >>= fun _ => pyNext it >>= fun r => match r with
    | none => pure (.done .next)
    | some v => letOwnedTupleGo tg it v >>= fun _ => assign tg env v >>= fun _ =>
      (forIn ifs true fun c r => if r = true then do let ok ← isTrue c env (eval c env); pure (ForInStep.yield ok) else pure (ForInStep.yield r)) >>= fun ok => if ok = true then mk nxt else nxt
abbrev TB := L2.St → Hp → (Hp → Prop) → Prop
section
variable {Xb : Cx}
structure PB (Xb : Cx) (vs : List Nat) (mk : Sem PySem.Fin → Sem PySem.Fin) (t : TB) : Prop where
  run : ∀ (pins : List (Addr × Obj)) (s : Shared) (σ : L2.St) (H : Hp) (K : Hp → Prop) (k : Sem PySem.Fin) (Q : PySem.Fin → Shared → Prop) (E : Value → Shared → Prop), Inv Xb pins σ H s → t σ H K →
    (∀ s' H', Inv Xb pins (wipe σ vs) H' s' → K H' → wpAny (model Xb.prog Xb.w) Xb.A k Q E s') → wpAny (model Xb.prog Xb.w) Xb.A (mk k) Q E s
theorem inv_wipe {pins : List (Addr × Obj)} {σ : L2.St} {H : Hp} {s : Shared} (I : Inv Xb pins σ H s) (vs : List Nat) : Inv Xb pins (wipe σ vs) H s := I.weak (wipe_length _ _) fun j v e => (wipe_some e).1
theorem wipe_more {σ : L2.St} {vs ws : List Nat} (h : ∀ i ∈ ws, i ∈ vs) : wipe (wipe σ ws) vs = wipe σ vs := wipe_ext (wipe_length _ _) fun j hj => wipe_out fun q => hj (h j q)
/-- the clause's loop -/
def tLoop (g : TG) (tt : TT) (t : TB) (vs : List Nat) (J : It) : TB := fun σ H K => ∃ Wv : Nat → Nat → Hp → Prop, (∃ m, Wv 0 m H) ∧ ∀ i m H, Wv i m H →
  (J.stop i H ∧ K H) ∨ (J.go i H ∧ ∃ Nx : Hp → Prop, (∀ H', Nx H' → ∃ m', m' < m ∧ Wv (i + 1) m' H') ∧ ∀ x H', J.yld i H x H' → g x (wipe σ vs) H' fun σ2 H2 => wipe σ2 vs = wipe σ vs ∧ tt σ2 H2 fun b H3 =>
    if b = true then t σ2 H3 Nx else Nx H3)
theorem loop_gen {C : Expr} {j : Nat} {acc : Value} {tg iter : Expr} {ifs : List Expr} {vs : List Nat} {mk : Sem PySem.Fin → Sem PySem.Fin} {it : Addr} {fp : List Addr} {tn : Nat → Heap → Prop} {J : It} {g : TG} {tt : TT} {t : TB}
    (hc : Xb.calm = true) (hxe : Xb.xe = fun _ _ => False) (hw : (Code.compLoop C j (.ref it) acc Xb.env).quiet = true) (hu : Xb.A.under (.compLoop C j (.ref it) acc Xb.env) = Xb.A)
    (hden : (model Xb.prog Xb.w).den (.compLoop C j (.ref it) acc Xb.env) = (compTurn C j (.ref it) acc Xb.env).onRaise (fun x => do noteFrame x Xb.env; theTreesLotGoes x))
    (heq : compTurn C j (.ref it) acc Xb.env = turnOf tg iter ifs Xb.env (.ref it) mk (again (.compLoop C j (.ref it) acc Xb.env)))
    (T : Turn Xb.prog Xb.w Xb.K tg J fp it tn) (pg : PG Xb tg g) (pt : PTs Xb ifs tt) (pm : PB Xb vs mk t)
    {pins : List (Addr × Obj)} {σ : L2.St} {H : Hp} {s : Shared} {K : Hp → Prop} {R : Result → Shared → Prop} (I : Inv Xb pins (wipe σ vs) H s) (st : tn 0 s.heap) (hf : ∀ b ∈ fp, FpOk Xb pins H b) (h : tLoop g tt t vs J σ H K)
    (hR : ∀ s' H', Inv Xb pins (wipe σ vs) H' s' → K H' → R (.ok .next) s') : codeAny (model Xb.prog Xb.w) Xb.A (.compLoop C j (.ref it) acc Xb.env) R s := by
  obtain ⟨Wv, ⟨m0, w0⟩, turn⟩ := h
  have stat : ∀ {H' : Hp}, (∀ b ∈ fp, H' b = none) → ∀ b ∈ fp, FpOk Xb pins H' b := fun hn b hb => ⟨hn b hb, (hf b hb).2⟩
  refine codeAny_loop hw (fun n s' => ∃ i H', Inv Xb pins (wipe σ vs) H' s' ∧ tn i s'.heap ∧ (∀ b ∈ fp, H' b = none) ∧ Wv i n H') ?_ m0 ⟨0, H, I, st, fun b hb => (hf b hb).1, w0⟩
  rintro n s5 ⟨i, H5, I5, st5, n5, w5⟩
  rw [hu, hden]
  refine wpAny_noted ?_
  rw [heq]
  refine wpAny_bind (wpAny_standAt ?_)
  rcases turn i n H5 w5 with ⟨stop, qq⟩ | ⟨go, Nx, hNx, step⟩
  · have td := T.done Xb rfl rfl rfl hc i pins s5 _ H5 (fun _ _ => False) I5 (stat n5) st5 stop
    refine wpAny_bind (thnF td fun r s6 ⟨hr, I6⟩ => ?_)
    subst hr
    exact wpAny_pure (hR s6 H5 I6 qq)
  · have ti := T.item Xb rfl rfl rfl hc i pins s5 _ H5 (fun _ _ => False) I5 (stat n5) st5 go
    refine wpAny_bind (thnF ti fun r s6 ⟨u, hr, h6⟩ => ?_)
    subst hr
    refine wpAny_bind (thnF h6 fun _ s7 ⟨x, H7, I7, r7, y7, st7, n7⟩ => ?_)
    have I7' := I7.pinned (stat n7) (T.obj _ _ st7)
    refine wpAny_bind (wpAny_mono (pg.run _ s7 _ H7 x u _ I7' r7 (step x H7 y7)) (fun _ s8 ⟨σ8, H8, I8, hw8, q8⟩ => ?_) fun _ _ z => by rw [hxe] at z; exact z.elim)
    refine wpAny_bind (wpAny_mono (pt.run _ s8 σ8 H8 _ I8 q8) (fun b s9 ⟨H9, I9, q9⟩ => ?_) fun _ _ z => by rw [hxe] at z; exact z.elim)
    have fin : ∀ {s' : Shared} {H' : Hp}, Inv Xb (pins ++ pinsAt fp s7.heap) (wipe σ8 vs) H' s' → Nx H' → ∃ m, m < n ∧ ∃ i H', Inv Xb pins (wipe σ vs) H' s' ∧ tn i s'.heap ∧ (∀ b ∈ fp, H' b = none) ∧ Wv i m H' := fun {s' H'} I' nx => by
      obtain ⟨m', hm, w'⟩ := hNx H' nx
      have pin' : ∀ b ∈ fp, ∀ o, s7.heap.get? b = some o → s'.heap.get? b = some o ∧ H' b = none := fun b hb o e =>
        let z := I'.pin (b, o) (List.mem_append_right _ (List.mem_append_right _ (mem_pinsAt hb e)))
        ⟨z.1, z.2.1⟩
      refine ⟨m', hm, i + 1, H', by rw [← hw8]; exact I'.unpinned (pins := pins), T.keep _ _ _ st7 fun b hb o e => (pin' b hb o e).1, fun b hb => ?_, w'⟩
      obtain ⟨o, e, _⟩ := T.obj _ _ st7 b hb
      exact (pin' b hb o e).2
    cases b with
    | false =>
      simp only [Bool.false_eq_true, if_false] at q9 ⊢
      exact wpAny_pure ⟨rfl, fin (inv_wipe I9 vs) q9⟩
    | true =>
      simp only [if_true] at q9 ⊢
      exact pm.run _ s9 σ8 H9 Nx _ _ _ I9 q9 fun s' H' I' nx => wpAny_pure ⟨rfl, fin I' nx⟩
/-- the start of a clause's code -/
theorem start_gen {C : Expr} {j : Nat} {acc : Value} {cl : Comprehension} {it : Addr} {fp : List Addr} {tn : Nat → Heap → Prop} {J : It} {tg : Expr} {s : Shared} {R : Result → Shared → Prop}
    (hcl : (clausesOf C)[j]? = some cl) (ha : cl.is_async = 0) (hu : Xb.A.under (.compStart C j (.ref it) acc Xb.env) = Xb.A)
    (hden : (model Xb.prog Xb.w).den (.compStart C j (.ref it) acc Xb.env) = (compStart C j (.ref it) acc Xb.env).onRaise (fun x => do noteFrame x Xb.env; standAt theWindowsPlace)) (hq : (Code.compLoop C j (.ref it) acc Xb.env).quiet = true)
    (T : Turn Xb.prog Xb.w Xb.K tg J fp it tn) (st : tn 0 s.heap) (h : codeAny (model Xb.prog Xb.w) Xb.A (.compLoop C j (.ref it) acc Xb.env) R s) : codeAny (model Xb.prog Xb.w) Xb.A (.compStart C j (.ref it) acc Xb.env) R s := by
  refine codeAny_of_tree ?_
  rw [hu, hden]
  refine wpAny_notedAt ?_
  unfold compStart
  rw [hcl]
  simp only [Option.elim, ha]
  show wpAny _ _ (ask >>= _) _ _ s
  refine wpAny_bind (wpAny_askSetting (wpAny_ite ?_))
  split
  · first
      | exact wpAny_bind (wpAny_pure (wpAny_pure (And.intro hq h)))
      | exact wpAny_pure (And.intro hq h)
  · first
      | exact wpAny_bind (wpAny_rule (wpAny_bind (wpAny_standAt (wpAny_bind (T.self _ 0 s _ _ st (wpAny_pure (And.intro hq h)))))))
      | (refine wpAny_bind (wpAny_rule ?_); show wpAny _ _ (standAt cl.iter.pos >>= _) _ _ s; exact wpAny_bind (wpAny_standAt (wpAny_bind (T.self _ 0 s _ _ st (wpAny_pure (And.intro hq h))))))

def mkIn (C : Expr) (j : Nat) (i1 : Expr) (env : PySem.Env) (acc : Value) (k : Sem PySem.Fin) : Sem PySem.Fin :=
  eval i1 env >>= fun x => standAt i1.pos >>= fun _ => foldedSetIterable i1 env x >>= fun x => holding [x] (pyIter x) >>= fun it1 => runOwn (.compStart C j it1 acc env) env >>= fun _ => k
def tIn (wi : TI) (g : TG) (tt : TT) (t : TB) (vs : List Nat) : TB := fun σ H K => wi σ H fun J H1 => tLoop g tt t vs J σ H1 K
theorem pb_in {C : Expr} {j : Nat} {acc : Value} {tg iter : Expr} {ifs : List Expr} {vs ws : List Nat} {mk : Sem PySem.Fin → Sem PySem.Fin} {wi : TI} {g : TG} {tt : TT} {t : TB} {cl : Comprehension}
    (hsub : ∀ i ∈ ws, i ∈ vs) (hc : Xb.calm = true) (hxe : Xb.xe = fun _ _ => False) (hcl : (clausesOf C)[j]? = some cl) (ha : cl.is_async = 0)
    (hu : ∀ it, Xb.A.under (.compStart C j it acc Xb.env) = Xb.A ∧ Xb.A.under (.compLoop C j it acc Xb.env) = Xb.A ∧ (Code.compLoop C j it acc Xb.env).quiet = true)
    (hden : ∀ it, (model Xb.prog Xb.w).den (.compStart C j it acc Xb.env) = (compStart C j it acc Xb.env).onRaise (fun x => do noteFrame x Xb.env; standAt theWindowsPlace) ∧
      (model Xb.prog Xb.w).den (.compLoop C j it acc Xb.env) = (compTurn C j it acc Xb.env).onRaise (fun x => do noteFrame x Xb.env; theTreesLotGoes x))
    (heq : ∀ it, compTurn C j it acc Xb.env = turnOf tg iter ifs Xb.env it mk (again (.compLoop C j it acc Xb.env)))
    (hi : PI Xb tg iter wi) (pg : PG Xb tg g) (pt : PTs Xb ifs tt) (pm : PB Xb ws mk t) (hs : ∀ x, foldedSetIterable iter Xb.env x = pure x) : PB Xb vs (mkIn C j iter Xb.env acc) (tIn wi g tt t ws) := by
  refine ⟨fun pins s σ H K k Q E I h hk => ?_⟩
  have ne : ∀ {a : Value} {s : Shared}, Xb.xe a s → E a s := fun z => by rw [hxe] at z; exact z.elim
  refine wpAny_bind (wpAny_mono (hi.run pins s σ H _ I h) (fun xv s1 hx => ?_) fun _ _ z => ne z)
  refine wpAny_bind (wpAny_standAt (wpAny_bind (wpAny_of_eq (hs xv) (wpAny_bind (wpAny_holding (wpAny_mono hx (fun itv s2 h2 => ?_) fun _ _ z => ne z))))))
  obtain ⟨it, fp, tn, J, H2, rfl, I2, T, st2, f2, q⟩ := h2
  refine wpAny_bind (wpAny_runOwn ?_)
  rw [Around.mark_none]
  refine codeAny_mono (start_gen hcl ha (hu _).1 (hden _).1 (hu _).2.2 T st2 (loop_gen hc hxe (hu _).2.2 (hu _).2.1 (hden _).2 (heq _) T pg pt pm (inv_wipe I2 ws) st2 f2 q (R := fun r s' => r = .ok .next ∧ ∃ H', Inv Xb pins (wipe σ ws) H' s' ∧ K H') fun s' H' I' kk => ⟨rfl, H', I', kk⟩)) fun r s' hr => ?_
  obtain ⟨rfl, H', I', kk⟩ := hr
  refine hk s' H' ?_ kk
  have z := inv_wipe I' vs
  rw [wipe_more hsub] at z
  exact z
def mkL (elt : Expr) (env : PySem.Env) (acc : Value) (k : Sem PySem.Fin) : Sem PySem.Fin := (eval elt env >>= fun x => call (.builtin "list.append") [acc, x] >>= fun _ => pure ()) >>= fun _ => k
def tAppend (te : TE) (D : Addr) : TB := fun σ H K => te σ H fun y H4 => ∃ acc, H4 D = some (.lst acc) ∧ acc.length < sizeLine ∧ K (upd H4 D (.lst (acc ++ [y])))
theorem pb_list {elt : Expr} {te : TE} {vs : List Nat} {D : Addr} (hxe : Xb.xe = fun _ _ => False) (he : PE Xb elt te) : PB Xb vs (mkL elt Xb.env (.ref D)) (tAppend te D) := by
  refine ⟨fun pins s σ H K k Q E I h hk => ?_⟩
  refine wpAny_bind (wpAny_bind (wpAny_mono (he.run pins s σ H _ I h) (fun u s1 ⟨y, H4, I4, r4, acc, hD, hz, q⟩ => ?_) fun _ _ z => by rw [hxe] at z; exact z.elim))
  exact wpAny_bind (app_ok I4 hD hz r4 fun s2 I5 => wpAny_pure (hk s2 _ (inv_wipe I5 vs) q))
def mkD (kx vx : Expr) (env : PySem.Env) (D : Addr) (k : Sem PySem.Fin) : Sem PySem.Fin :=
  (eval kx env >>= fun kv => holding [kv] (eval vx env) >>= fun vv => standAt { kx.pos with endLine := vx.pos.endLine, endCol := vx.pos.endCol } >>= fun _ => holding [kv, vv] (dictSet D kv vv)) >>= fun _ => k
def tStore (K' : KP) (tk tv : TE) (D : Addr) : TB := fun σ H K => tk σ H fun y H4 => tv σ H4 fun z H5 => DP K' H5 D y z K
theorem dp_dictSet {pins : List (Addr × Obj)} {σ : L2.St} {H : Hp} {s : Shared} {E : Value → Shared → Prop} {a : Addr} {y v : V} {u r : Value} {Q : Hp → Prop} {R : Unit → Shared → Prop} (hu : Xb.A.units + 1 < cLine) (I : Inv Xb pins σ H s) (g : DP (XK Xb) H a y v Q) (ry : RelV y u) (rv : RelV v r)
    (h : ∀ s' H', Inv Xb pins σ H' s' → Q H' → R () s') : wpAny (model Xb.prog Xb.w) Xb.A (dictSet a u r) R E s := by
  rcases g with ⟨kvs, k, e1, e2, e3, q⟩ | ⟨xs, ks, b, e1, ⟨kvs, qs⟩, rfl, e2, e3, q⟩
  · subst e2
    exact d_dictSet I e1 e3 ry rv fun s' I' => h s' _ I' q
  · cases (show u = Value.ref b from ry)
    obtain ⟨hz, hd, dd⟩ := td_dict I (.inl e1) qs
    refine wpAny_dictSet_heap (hsz := hz) (by show Xb.A.units < cLine; omega) (key_sq I e2) dd fun h' dd' hs => h _ _ ?_ (q r rv)
    obtain ⟨ob, es, ep, hq, h2, h3, h4, _, h5⟩ := dd'
    exact d_write I (by rw [e1]; exact True.intro) hs ⟨ob, hq⟩ (td_new ⟨Nat.le_trans storedH_len e3, hd, ob, es, ep, hq, h2, h3, h4, h5⟩)
theorem pb_dict {kx vx : Expr} {tk tv : TE} {vs : List Nat} {D : Addr} (hu : Xb.A.units + 1 < cLine) (hxe : Xb.xe = fun _ _ => False) (hk' : PE Xb kx tk) (hv : PE Xb vx tv) : PB Xb vs (mkD kx vx Xb.env D) (tStore (XK Xb) tk tv D) := by
  refine ⟨fun pins s σ H K k Q E I h hk => ?_⟩
  refine wpAny_bind (wpAny_bind (wpAny_mono (hk'.run pins s σ H _ I h) (fun u s1 ⟨y, H4, I4, r4, q4⟩ => ?_) fun _ _ z => by rw [hxe] at z; exact z.elim))
  refine wpAny_bind (wpAny_holding (wpAny_mono (hv.run pins s1 σ H4 _ I4 q4) (fun u2 s2 ⟨z, H5, I5, r5, q5⟩ => ?_) fun _ _ z => by rw [hxe] at z; exact z.elim))
  exact wpAny_bind (wpAny_standAt (wpAny_holding (dp_dictSet hu I5 q5 r4 r5 fun s3 H6 I6 q6 => hk s3 H6 (inv_wipe I6 vs) q6)))
end
end DL
namespace DL
open PySem PySem.Spec PyProof.Rows L2
/-- what a comprehension's expression is, to the machine -/
structure CF (C : Expr) (scope : Scope) (tg iter : Expr) (ifs : List Expr) (newAcc : Sem Value) : Prop where
  cl : ∃ gs, clausesOf C = ⟨tg, iter, ifs, 0⟩ :: gs
  und : ∀ (A : Around) (j : Nat) (it acc : Value) (env : PySem.Env), A.under (.compStart C j it acc env) = A ∧ A.under (.compLoop C j it acc env) = A ∧ (Code.compLoop C j it acc env).quiet = true
  den : ∀ (P : Program) (w : World) (j : Nat) (it acc : Value) (env : PySem.Env), (model P w).den (.compStart C j it acc env) = (compStart C j it acc env).onRaise (fun x => do noteFrame x env; standAt theWindowsPlace) ∧
    (model P w).den (.compLoop C j it acc env) = (compTurn C j it acc env).onRaise (fun x => do noteFrame x env; theTreesLotGoes x)
  ev : ∀ env, ∃ pos, eval C env = comprehension C scope env pos newAcc false (eval iter env)
  use : ∀ env, ∃ pos, ∀ u : Value → Sem Unit, evalThenUse C env u = (do let _ ← comprehension C scope env pos newAcc false (eval iter env) (some u))
theorem cf_list {elt tg iter : Expr} {ifs : List Expr} {gs : List Comprehension} {scope : Scope} {pos : Pos} : CF (.ListComp elt (⟨tg, iter, ifs, 0⟩ :: gs) scope pos) scope tg iter ifs (newList []) :=
  ⟨⟨gs, rfl⟩, fun A j it acc env => ⟨rfl, rfl, rfl⟩, fun P w j it acc env => ⟨rfl, rfl⟩, fun env => ⟨_, rfl⟩, fun env => ⟨_, fun u => rfl⟩⟩
theorem cf_dict {kx vx tg iter : Expr} {ifs : List Expr} {gs : List Comprehension} {scope : Scope} {pos : Pos} : CF (.DictComp kx vx (⟨tg, iter, ifs, 0⟩ :: gs) scope pos) scope tg iter ifs newDict :=
  ⟨⟨gs, rfl⟩, fun A j it acc env => ⟨rfl, rfl, rfl⟩, fun P w j it acc env => ⟨rfl, rfl⟩, fun env => ⟨_, rfl⟩, fun env => ⟨_, fun u => rfl⟩⟩
def tComp (o0 : Addr → HO) (wi : TI) (g : TG) (tt : TT) (t : Addr → TB) (vs : List Nat) : TE := fun σ H Q => wi σ H fun J H1 => ∀ D, H1 D = none → tLoop g tt (t D) vs J σ (upd H1 D (o0 D)) fun H' => Q (.ref D) H'
section
variable {X : Cx}
/-- how a new container comes -/
structure NewC (X : Cx) (newAcc : Sem Value) (o0 : Addr → HO) : Prop where
  ex : ∃ ob : Obj, ob.isFreed = false ∧ (∀ (A : Around) (s : Shared) (Q E : Value → Shared → Prop), Q (.ref s.heap.objs.size) { s with heap := s.heap.push ob } → wpAny (model X.prog X.w) A newAcc Q E s) ∧
    ∀ (H : Hp) (h : Heap), sysModules < h.objs.size → ObjOk X.prog X.w H (h.push ob) h.objs.size (o0 h.objs.size)
theorem new_list : NewC X (newList []) (fun _ => .lst []) := by
  refine ⟨{ cls := .type "list", data := .seq ([] : List Value).toArray }, rfl, fun A s Q E h => wpAny_newObj_type h (by show 0 ≤ sizeLine; decide), fun H h _ => ⟨Nat.zero_le _, [], 0, .nil, ?_⟩⟩
  exact Heap.get?_push_size _ rfl
theorem new_dK : NewC X newDict (fun _ => .dK []) :=
  ⟨{ cls := .type "dict", data := .dict #[] }, rfl, fun A s Q E h => wpAny_newObj_type h, fun H h hb => dk_empty h hb⟩
theorem td_empty {K : KP} (h : Heap) (hb : sysModules < h.objs.size) : TDok K h.objs.size [] (h.push { cls := .type "dict", data := .dict #[] }) :=
  ⟨Nat.zero_le _, beq_eq_false_iff_ne.mpr (Ne.symm (Nat.ne_of_lt hb)), _, #[], 0, Heap.get?_push_size _ rfl, ⟨rfl, rfl, rfl⟩, rfl, rfl, List.nodup_nil⟩
theorem new_dT {K : KP} : NewC X newDict (fun D => TD K D []) :=
  ⟨{ cls := .type "dict", data := .dict #[] }, rfl, fun A s Q E h => wpAny_newObj_type h, fun H h hb => td_new (td_empty h hb)⟩
theorem comp_core {C tg iter : Expr} {ifs : List Expr} {scope : Scope} {own : List (Str × Nat)} {newAcc : Sem Value} {o0 : Addr → HO} {wi : TI} {g : TG} {tt : TT} {t : Addr → TB} {mk : PySem.Env → Addr → Sem PySem.Fin → Sem PySem.Fin}
    {pins : List (Addr × Obj)} {s : Shared} {σ : L2.St} {H : Hp} {Q : VK} {pos' : Pos} {use : Option (Value → Sem Unit)} {Qf : Value → Shared → Prop}
    (cf : CF C scope tg iter ifs newAcc) (hnew : NewC X newAcc o0) (hc : X.calm = true) (hN : X.N.Nodup) (I : Inv X pins σ H s) (hi : PI X tg iter wi) (ok : BlkOk X.N X.env.scope scope own)
    (heq : ∀ (it acc : Value) (D : Addr) (env : PySem.Env), acc = .ref D → compTurn C 0 it acc env = turnOf tg iter ifs env it (mk env D) (again (.compLoop C 0 it acc env)))
    (hg : ∀ (s : Shared) (H : Hp) (C' : Addr) (cl : List (Str × Addr)) (fp : List Addr), PG (X.blk s H scope (compEnvC scope cl C' X.env) fp) tg g) (ht : ∀ (s : Shared) (H : Hp) (C' : Addr) (cl : List (Str × Addr)) (fp : List Addr), PTs (X.blk s H scope (compEnvC scope cl C' X.env) fp) ifs tt)
    (hm : ∀ (s : Shared) (H : Hp) (C' : Addr) (cl : List (Str × Addr)) (fp : List Addr) (D : Addr), PB (X.blk s H scope (compEnvC scope cl C' X.env) fp) (own.map (·.2)) (mk (compEnvC scope cl C' X.env) D) (t D)) (hs : ∀ x, foldedSetIterable iter X.env x = pure x)
    (h : tComp o0 wi g tt t (own.map (·.2)) σ H Q)
    (hRR : ∀ D C' s' m H', Inv X pins σ H' s' → Q (.ref D) H' → s'.heap.Ns C' m → FpOk X pins H' C' → compPost (model X.prog X.w) X.A X.xe use Qf (.ref D) C' (.ok .next) s') :
    wpAny (model X.prog X.w) X.A (comprehension C scope X.env pos' newAcc false (eval iter X.env) use) Qf X.xe s := by
  obtain ⟨gs, hcl⟩ := cf.cl
  obtain ⟨ob, hfr, hob1, hob2⟩ := hnew.ex
  have hfree : ∀ y ∈ scope.names, y.2 = .free → ∃ c, X.env.cells.lookup y.1 = some c := fun y hy e => (ok.free y hy e).elim (fun k => I.ok.has _ (.inl k)) fun k => I.ok.has _ (.inr k)
  refine wpAny_comprehension_free (use := use) hcl hs (closure_ok hfree) ok.kind (fun y hy e => by rw [ok.uniq y hy, e]) (thn (hi.run pins s σ H _ I h) fun xv s1 hx => thn hx fun itv s2 h2 => ?_)
  obtain ⟨it, fp, tn, J, H2, rfl, I2, T, st2, f2, q⟩ := h2
  refine hob1 X.A s2 _ _ (newEnv_comp ?_)
  generalize hD : s2.heap.objs.size = D
  have hDn : H2 D = none := I2.hok.fresh (Nat.le_of_eq hD)
  have q := q D hDn
  generalize hs3 : ({ s2 with heap := s2.heap.push ob } : Shared) = s3
  have h3 : s3.heap = s2.heap.push ob := by rw [← hs3]
  have I3 : Inv X pins σ (upd H2 D (o0 D)) s3 := by
    rw [← hs3, ← hD]
    exact I2.laid (t' := s2.toks) (fun b o e => Heap.get?_push_of_some _ e) (Nat.le_refl _) (hob2 _ s2.heap I2.big)
  have sz : ∀ b ∈ fp, b < s2.heap.objs.size := fun b hb => let ⟨o, e, _⟩ := T.obj _ _ st2 b hb; Heap.lt_size e
  have f3 : ∀ b ∈ fp, FpOk X pins (upd H2 D (o0 D)) b ∧ b < s3.heap.objs.size := fun b hb => by
    have hlt := sz b hb
    refine ⟨⟨?_, (f2 b hb).2⟩, by rw [h3, Heap.size_push]; exact Nat.lt_succ_of_lt hlt⟩
    rw [upd_ne (by rw [← hD]; exact Nat.ne_of_lt hlt)]
    exact (f2 b hb).1
  have I4 := block_start I3 ok hN f3
  have pg := hg s3 (upd H2 D (o0 D)) s3.heap.objs.size (cellsFrom (s3.heap.objs.size + 1) scope.names (cloFrom X.env.cells scope.names [])) fp
  have pt := ht s3 (upd H2 D (o0 D)) s3.heap.objs.size (cellsFrom (s3.heap.objs.size + 1) scope.names (cloFrom X.env.cells scope.names [])) fp
  have pm := hm s3 (upd H2 D (o0 D)) s3.heap.objs.size (cellsFrom (s3.heap.objs.size + 1) scope.names (cloFrom X.env.cells scope.names [])) fp D
  show codeAny _ _ (.compStart C 0 (.ref it) (.ref D) (compEnvC scope (cellsFrom (s3.heap.objs.size + 1) scope.names (cloFrom X.env.cells scope.names [])) s3.heap.objs.size X.env)) (compPost (model X.prog X.w) X.A X.xe use Qf (.ref D) s3.heap.objs.size) { s3 with heap := pushCells (s3.heap.push { cls := .type "dict", data := .dict #[] }) scope.names }
  generalize hce : compEnvC scope (cellsFrom (s3.heap.objs.size + 1) scope.names (cloFrom X.env.cells scope.names [])) s3.heap.objs.size X.env = ce at I4 pg pt pm ⊢
  have cL : ce.locals = s3.heap.objs.size := by subst hce; rfl
  generalize hs4 : ({ s3 with heap := pushCells (s3.heap.push { cls := .type "dict", data := .dict #[] }) scope.names } : Shared) = s4 at I4 ⊢
  have st4 : tn 0 s4.heap := T.keep _ _ _ st2 fun b _ o e => by
    rw [← hs4]
    exact pushCells_keeps _ _ _ _ (Heap.get?_push_of_some _ (by rw [h3]; exact Heap.get?_push_of_some _ e))
  have stat : ∀ b ∈ fp, FpOk (X.blk s3 (upd H2 D (o0 D)) scope ce fp) [] (upd H2 D (o0 D)) b := fun b hb =>
    ⟨(f3 b hb).1.1, (I4.ok.exf b hb).1, I4.ok.exfs b hb, .inl hb, fun x c e => (I4.ok.exf b hb).2 x c e, fun p hp => absurd (show p ∈ ([] : List (Addr × Obj)) ++ [] from hp) (by simp)⟩
  have e0 : (clausesOf C)[0]? = some ⟨tg, iter, ifs, 0⟩ := by rw [hcl]; rfl
  refine start_gen (Xb := X.blk s3 (upd H2 D (o0 D)) scope ce fp) e0 rfl (cf.und _ _ _ _ _).1 (cf.den _ _ _ _ _ _).1 (cf.und X.A _ _ _ _).2.2 T st4 ?_
  refine loop_gen (Xb := X.blk s3 (upd H2 D (o0 D)) scope ce fp) (vs := own.map (·.2)) (σ := σ) hc rfl (cf.und X.A _ _ _ _).2.2 (cf.und _ _ _ _ _).2.1 (cf.den _ _ _ _ _ _).2 (heq _ _ D _ rfl) T pg pt pm I4 st4 stat q fun s6 H6 I6 q6 => ?_
  have I7 : Inv X pins σ H6 s6 := I3.call' (ch := fp) I6.os I6.base I6.hok I6.bare fun b hb => ⟨(f3 b hb).1.2.2.2.1, (f3 b hb).1.2.1, (f3 b hb).1.2.2.2.2.1, (f3 b hb).1.2.2.2.2.2⟩
  have nC : H6 s3.heap.objs.size = none := by rw [← cL]; exact I6.free
  obtain ⟨m, hn, _⟩ := I6.loc
  have hn : s6.heap.Ns ce.locals m := hn
  rw [cL] at hn
  exact hRR D s3.heap.objs.size s6 m H6 I7 q6 hn (I3.fpOk (Nat.le_refl _) nC)
theorem pe_comp {C tg iter : Expr} {ifs : List Expr} {scope : Scope} {own : List (Str × Nat)} {newAcc : Sem Value} {o0 : Addr → HO} {wi : TI} {g : TG} {tt : TT} {t : Addr → TB} {mk : PySem.Env → Addr → Sem PySem.Fin → Sem PySem.Fin}
    (cf : CF C scope tg iter ifs newAcc) (hnew : NewC X newAcc o0) (hc : X.calm = true) (hN : X.N.Nodup) (hi : PI X tg iter wi) (ok : BlkOk X.N X.env.scope scope own)
    (heq : ∀ (it acc : Value) (D : Addr) (env : PySem.Env), acc = .ref D → compTurn C 0 it acc env = turnOf tg iter ifs env it (mk env D) (again (.compLoop C 0 it acc env)))
    (hg : ∀ (s : Shared) (H : Hp) (C' : Addr) (cl : List (Str × Addr)) (fp : List Addr), PG (X.blk s H scope (compEnvC scope cl C' X.env) fp) tg g) (ht : ∀ (s : Shared) (H : Hp) (C' : Addr) (cl : List (Str × Addr)) (fp : List Addr), PTs (X.blk s H scope (compEnvC scope cl C' X.env) fp) ifs tt)
    (hm : ∀ (s : Shared) (H : Hp) (C' : Addr) (cl : List (Str × Addr)) (fp : List Addr) (D : Addr), PB (X.blk s H scope (compEnvC scope cl C' X.env) fp) (own.map (·.2)) (mk (compEnvC scope cl C' X.env) D) (t D)) (hs : ∀ x, foldedSetIterable iter X.env x = pure x) :
    PE X C (tComp o0 wi g tt t (own.map (·.2))) ∧ ∀ (i : Nat) (y : Str) (py spos : Pos), X.N[i]? = some y → X.env.scope.names.lookup y = some .local → swapsWith C (some (.Name y py)) spos.line X.env = pure true → PS X (.Assign [.Name y py] C spos) (tAsg (tComp o0 wi g tt t (own.map (·.2))) (gName i)) := by
  refine ⟨⟨fun pins s σ H Q I h => ?_⟩, fun i y py spos hy hyl hsw => ⟨fun pins s σ H D I h => ?_⟩⟩
  · obtain ⟨pos, e⟩ := cf.ev X.env
    rw [e]
    refine comp_core cf hnew hc hN I hi ok heq hg ht hm hs h fun D C' s' m H' I' q hn f => ⟨m, hn, fun h'' sb => ?_⟩
    obtain ⟨f0, f1, f2, f3, f4, f5⟩ := f
    exact ⟨.ref D, H', I'.turned (t' := s'.toks) (fun b o hb e => (sb.2 b hb).trans e) f0 f1 f3 f4 f5, rfl, q⟩
  · rw [exec_Assign_Name_used _ _ _ _ hsw]
    refine wpAny_bind (wpAny_standAt (wpAny_bind ?_))
    obtain ⟨pos, e⟩ := cf.use X.env
    rw [e]
    have h : tComp o0 wi g tt t (own.map (·.2)) σ H (fun x H1 => gName i x σ H1 D.nx) := h
    refine wpAny_bind (thn (comp_core (Qf := fun _ s' => SP X pins D .next s') cf hnew hc hN I hi ok heq hg ht hm hs h fun L C' s' m H' I' q hn f => ?_) fun _ s' hq => wpAny_pure (wpAny_pure hq))
    show wpAny _ _ (assign (.Name y py) X.env (.ref L)) _ _ _
    refine wpAny_assign_Name (store_ok2 (v := V.ref L) I' hN hy (.inl hyl) rfl (fun s2 I2 ⟨a, sb, ha⟩ => ?_) (.inr hyl))
    obtain ⟨f0, f1, f2, f3, f4, f5⟩ := f
    have haC : C' ≠ a := by
      rcases ha with z | z
      · rw [z]; exact f1
      · exact fun e => f4 y a z e.symm
    refine ⟨m, hn.sameBut sb haC, fun h3 sb3 => ?_⟩
    exact ⟨_, H', I2.turned (t' := s2.toks) (fun b o hb e => (sb3.2 b hb).trans e) f0 f1 f3 f4 f5, q⟩
end
end DL
namespace DL
open PySem PySem.Spec PyProof.Rows L2
/-- a container that a comprehension fills -/
structure Box (K : KP) (α β : Type) where
  rel : Addr → Wd → HO → α → Prop
  live : ∀ {D W ho a}, rel D W ho a → HO.live ho = true
  mono : ∀ {D W W' ho a}, Le0 K W W' → rel D W ho a → rel D W' ho a
  step : α → β → Option α
def foldO {α β : Type} (f : α → β → Option α) : α → List β → Option α
  | a, [] => some a
  | a, y :: ys => (f a y).bind fun a' => foldO f a' ys
theorem foldO_app {α β : Type} {f : α → β → Option α} : ∀ {ys zs : List β} {a c : α}, foldO f a (ys ++ zs) = some c → ∃ b, foldO f a ys = some b ∧ foldO f b zs = some c
  | [], zs, a, c, h => ⟨a, rfl, h⟩
  | y :: ys, zs, a, c, h => by
    rw [List.cons_append, foldO] at h
    rw [foldO]
    cases e : f a y with
    | none => rw [e] at h; cases h
    | some a' => rw [e] at h; exact foldO_app h
structure Cs {α β : Type} (K : KP) (B : Box K α β) (W1 : Wd) (D : Addr) (W2 : Wd) (a : α) : Prop where
  le : Le K W1 W2
  ok : Ok K W2
  pv : D ∈ W2.pv
  at' : ∃ ho, W2.H D = some ho ∧ B.rel D W2 ho a
section
variable {α β : Type} {K : KP} {B : Box K α β} {W1 W2 W3 : Wd} {D : Addr} {a : α}
theorem Cs.mono (c : Cs K B W1 D W2 a) (l : Le K W2 W3) (k : Ok K W3) : Cs K B W1 D W3 a :=
  ⟨c.le.trans l, k, (l.x D c.pv).1, let ⟨ho, h1, h2⟩ := c.at'; ⟨ho, (l.x D c.pv).2.trans h1, B.mono l.zero h2⟩⟩
theorem Cs.write (c : Cs K B W1 D W2 a) (np : D ∉ W1.pv) {o : HO} {a' : α} (h : B.rel D W2 o a') : Cs K B W1 D (W2.wr D o) a' ∧ LeZ K W2 (W2.wr D o) := by
  obtain ⟨ho, e, r⟩ := c.at'
  have hu := B.live r
  have z := le0_wr (o := o) c.ok c.pv e hu
  refine ⟨⟨le_wr c.le c.ok c.pv np e hu, c.ok.wr c.pv e hu, c.pv, o, upd_same, B.mono z h⟩, z.β, z.t, z.l, z.k, z.kt, fun b ob v q => ?_⟩
  show upd W2.H D o b = _
  rw [upd_ne fun q' => by rw [q', e] at q; cases q; cases hu]
  exact q
end
section
variable {S : SC} {α β : Type}
/-- a body that adds what f says -/
def SemB (S : SC) (B : Box S.K α β) (t : Addr → TB) (f : En → Mo (List β)) : Prop := ∀ (D : Addr) (W1 W2 : Wd) (a a' : α) (σ : L2.St) (ρ : En) (Kt : Hp → Prop) (ys : List β) (M' : Mem), Cs S.K B W1 D W2 a → D ∉ W1.pv → StR S.K W2 σ ρ → f ρ W2.M = some (.ok ys, M') → foldO B.step a ys = some a' →
  (∀ W3, Cs S.K B W1 D W3 a' → W3.M = M' → LeZ S.K W2 W3 → Kt W3.H) → t D σ W2.H Kt
theorem StR.monoZ {K : KP} {W W' : Wd} {σ : L2.St} {ρ : En} (h : StR K W σ ρ) (z : LeZ K W W') : StR K W' σ ρ := ⟨h.1, fun i d q => let ⟨v, h1, h2⟩ := h.2 i d q; ⟨v, h1, h2.mono0 z.zero⟩⟩
theorem loop_sem {S : SC} {B : Box S.K α β} {g : TG} {tt : TT} {t : Addr → TB} {h : DL.D → En → Mo En} {c : En → Mo Bool} {f : En → Mo (List β)} {vs : List Nat} (hg : SemGv S vs g h) (ht : SemT S tt c) (hb : SemB S B t f)
    {D : Addr} {W1 W2 : Wd} {it : Itd'} {J : It} {a a' : α} {σ : L2.St} {ρ : En} {Kt : Hp → Prop} {ys : List β} {M' : Mem} (cs : Cs S.K B W1 D W2 a) (np : D ∉ W1.pv) (st : StR S.K W2 σ ρ) (hJ : ∀ W3, LeZ S.K W2 W3 → Ok S.K W3 → gdOk it.gd W3.M →
      (∀ i, i < it.items.length → J.go i W3.H ∧ ∀ x H', J.yld i W3.H x H' → ∃ W4, Le S.K W3 W4 ∧ Ok S.K W4 ∧ W4.M = W3.M ∧ W4.H = H' ∧ ∃ d, it.items[i]? = some d ∧ Rp S.K W4 x d) ∧ J.stop it.items.length W3.H)
    (hl : compL it.gd (turn1 (wipeR ρ vs) h c f) it.items W2.M = some (.ok ys, M')) (hf : foldO B.step a ys = some a') (hK : ∀ W3, Cs S.K B W1 D W3 a' → W3.M = M' → LeZ S.K W2 W3 → Kt W3.H) : tLoop g tt (t D) vs J σ W2.H Kt := by
  refine ⟨fun i m H' => m = it.items.length - i ∧ i ≤ it.items.length ∧ ∃ W3 b zs, Cs S.K B W1 D W3 b ∧ LeZ S.K W2 W3 ∧ W3.H = H' ∧ compL it.gd (turn1 (wipeR ρ vs) h c f) (it.items.drop i) W3.M = some (.ok zs, M') ∧ foldO B.step b zs = some a',
    ⟨_, rfl, Nat.zero_le _, W2, a, ys, cs, (Le.refl _ _).toZ, rfl, hl, hf⟩, ?_⟩
  rintro i m H' ⟨rfl, hi, W3, b, zs, c3, z3, rfl, hc, hfo⟩
  by_cases hlt : i < it.items.length
  · rw [List.drop_eq_getElem_cons hlt] at hc
    obtain ⟨hgd, us, M3, ts, hturn, hrest, rfl⟩ := compL_cons hc
    obtain ⟨go, yl⟩ := (hJ W3 z3 c3.ok hgd).1 i hlt
    obtain ⟨b', hf1, hf2⟩ := foldO_app hfo
    refine .inr ⟨go, fun H3 => ∃ W4, Cs S.K B W1 D W4 b' ∧ LeZ S.K W2 W4 ∧ W4.H = H3 ∧ W4.M = M3, ?_, ?_⟩
    · rintro H3 ⟨W4, a1, a2, a3, a4⟩
      exact ⟨_, by omega, rfl, hlt, W4, b', ts, a1, a2, a3, by rw [a4]; exact hrest, hf2⟩
    · intro x H' hy
      obtain ⟨W4, l4, k4, m4, rfl, d, hd, rd⟩ := yl x H' hy
      have hd' : d = it.items[i] := by
        rw [List.getElem?_eq_getElem hlt] at hd
        exact (Option.some.inj hd).symm
      subst hd'
      obtain ⟨ρ1, M5, b1, M6, q1, q2, q3⟩ := turn1_ok hturn
      rw [← m4] at q1
      have z4 := z3.trans l4.toZ
      have c4 := c3.mono l4 k4
      refine hg W4 _ _ x _ _ k4 ((st.monoZ z4).wipe _) rd (post0_of q1 fun W5 l5 k5 m5 σ5 st5 hw => ⟨hw.trans (wipe_ext (wipe_length _ _) fun j hj => wipe_out hj), ?_⟩)
      rw [← m5] at q2
      refine ht W5 σ5 ρ1 _ k5 st5 (post_of q2 fun W6 l6 k6 m6 => ?_)
      have z6 := (z4.trans l5.toZ).trans l6.toZ
      have c6 := (c4.mono l5 k5).mono l6 k6
      rcases q3 with ⟨rfl, q3⟩ | ⟨rfl, rfl, rfl⟩
      · rw [if_pos rfl]
        rw [← m6] at q3
        exact hb D W1 W6 b b' σ5 ρ1 _ us M3 c6 np (st5.mono l6) q3 hf1 fun W7 c7 m7 z7 => ⟨W7, c7, z6.trans z7, rfl, m7⟩
      · cases hf1
        exact ⟨W6, c6, z6, rfl, m6⟩
  · have e : i = it.items.length := by omega
    subst e
    rw [List.drop_length] at hc
    obtain ⟨hgd, rfl, rfl⟩ := compL_nil hc
    cases hfo
    exact .inl ⟨(hJ W3 z3 c3.ok hgd).2, hK W3 c3 rfl z3⟩
/-- a clause within, as a body -/
noncomputable def inF (f1 : En → Mo Itd') (vs : List Nat) (h : DL.D → En → Mo En) (c : En → Mo Bool) (f : En → Mo (List β)) (ρ : En) : Mo (List β) := .bnd (f1 ρ) fun it => compL it.gd (turn1 (wipeR ρ vs) h c f) it.items
theorem semb_in {B : Box S.K α β} {wi : TI} {g : TG} {tt : TT} {t : Addr → TB} {h : DL.D → En → Mo En} {c : En → Mo Bool} {f : En → Mo (List β)} {f1 : En → Mo Itd'} {vs : List Nat} (hi : SemI S wi f1) (hg : SemGv S vs g h) (ht : SemT S tt c) (hb : SemB S B t f) :
    SemB S B (fun D => tIn wi g tt (t D) vs) (inF f1 vs h c f) := by
  intro D W1 W2 a a' σ ρ Kt ys M' cs np st hf hfo hK
  obtain ⟨it, M3, q1, q2⟩ := bnd_ok hf
  refine hi W2 σ ρ _ cs.ok st (post_of q1 fun W3 l3 k3 m3 J hJ => ?_)
  rw [← m3] at q2
  exact loop_sem hg ht hb (cs.mono l3 k3) np (st.mono l3) hJ.2 q2 hfo fun W4 c4 m4 z4 => hK W4 c4 m4 (l3.toZ.trans z4)
def boxL (K : KP) : Box K (List DL.D) DL.D where
  rel := fun _ W ho l => ∃ xs, ho = .lst xs ∧ RpA K W xs l
  live := fun ⟨_, e, _⟩ => by rw [e]; rfl
  mono := fun z ⟨xs, e, r⟩ => ⟨xs, e, r.mono0 z⟩
  step := fun l y => if l.length < sizeLine then some (l ++ [y]) else none
theorem semb_list {te : TE} {e : En → Mo DL.D} (he : SemE S te e) : SemB S (boxL S.K) (tAppend te) (one' e) := by
  intro D W1 W2 a a' σ ρ Kt ys M' cs np st hf hfo hK
  obtain ⟨y, M3, q1, q2⟩ := bnd_ok (m := e ρ) hf
  obtain ⟨rfl, rfl⟩ := ret_ok q2
  refine he W2 σ ρ _ cs.ok st (post_of q1 fun W3 l3 k3 m3 v rv => ?_)
  have c3 := cs.mono l3 k3
  obtain ⟨ho, e1, xs, rfl, r⟩ := c3.at'
  have hs : (if a.length < sizeLine then some (a ++ [y]) else none) = some a' := by
    have z : ((if a.length < sizeLine then some (a ++ [y]) else none).bind fun x => foldO (boxL S.K).step x []) = some a' := hfo
    split at z
    · rename_i q; rw [if_pos q]; exact z
    · cases z
  split at hs
  · rename_i hlt
    cases hs
    refine ⟨xs, e1, by rw [r.length]; exact hlt, ?_⟩
    obtain ⟨c4, z4⟩ := c3.write np (o := .lst (xs ++ [v])) (a' := a ++ [y]) ⟨_, rfl, r.append (.one rv)⟩
    exact hK _ c4 m3 (l3.toZ.trans z4)
  · cases hs
def boxD (K : KP) (t : Bool) : Box K (List (DL.D × DL.D)) (DL.D × DL.D) where
  rel := fun D W ho l => match t with
    | false => ∃ kvs, ho = .dK kvs ∧ RpK K W kvs l
    | true => ∃ xs kvs, ho = TD K D xs ∧ KS K.K W.H xs kvs ∧ RpT K W kvs l
  live := by
    cases t
    · exact fun ⟨_, e, _⟩ => by rw [e]; rfl
    · exact fun ⟨_, _, e, _⟩ => by rw [e]; rfl
  mono := by
    cases t
    · exact fun z ⟨kvs, e, r⟩ => ⟨kvs, e, r.mono0 z⟩
    · exact fun z ⟨xs, kvs, e, q, r⟩ => ⟨xs, kvs, e, q.mono z.t, r.mono0 z⟩
  step := fun l y => if l.length < sizeLine then putB t l y.1 y.2 else none
def two' (ek ev : En → Mo DL.D) (ρ : En) : Mo (List (DL.D × DL.D)) := .bnd (ek ρ) fun k => .bnd (ev ρ) fun v => .ret [(k, v)]
theorem semb_dict {t : Bool} {tk tv : TE} {ek ev : En → Mo DL.D} (hk : SemE S tk ek) (hv : SemE S tv ev) : SemB S (boxD S.K t) (tStore S.K tk tv) (two' ek ev) := by
  intro D W1 W2 a a' σ ρ Kt ys M' cs np st hf hfo hK
  obtain ⟨k, M3, q1, q1'⟩ := bnd_ok (m := ek ρ) hf
  obtain ⟨v, M4, q2, q3⟩ := bnd_ok (m := ev ρ) q1'
  clear q1'
  obtain ⟨rfl, rfl⟩ := ret_ok q3
  refine hk W2 σ ρ _ cs.ok st (post_of q1 fun W3 l3 k3 m3 ku rk => ?_)
  rw [← m3] at q2
  refine hv W3 σ ρ _ k3 (st.mono l3) (post_of q2 fun W4 l4 k4 m4 vu rv => ?_)
  have c4 := (cs.mono l3 k3).mono l4 k4
  have rk := rk.mono l4
  have hs : (if a.length < sizeLine then putB t a k v else none) = some a' := by
    have z : ((if a.length < sizeLine then putB t a k v else none).bind fun x => foldO (boxD S.K t).step x []) = some a' := hfo
    cases e : (if a.length < sizeLine then putB t a k v else none) with
    | none => rw [e] at z; cases z
    | some b => rw [e] at z; exact z
  split at hs
  · rename_i hlt
    have z34 := l3.toZ.trans l4.toZ
    obtain ⟨ho, e1, r⟩ := c4.at'
    cases t
    · obtain ⟨kvs, rfl, r⟩ := r
      obtain ⟨kk, hkk, e⟩ := Option.map_eq_some_iff.mp (show (toK k).map (fun q => putG toK a q k v) = some a' from hs)
      subst e
      obtain ⟨e2, e3⟩ := toK_run rk hkk
      subst e3
      obtain ⟨c5, z5⟩ := c4.write np (o := .dK (putK kvs kk vu)) (a' := putG toK a kk (kD kk) v) ⟨_, rfl, putG_k r rv⟩
      exact .inl ⟨kvs, kk, e1, e2, by rw [rpk_len r]; exact hlt, hK _ c5 m4 (z34.trans z5)⟩
    · obtain ⟨xs, kvs, rfl, q, r⟩ := r
      obtain ⟨kk, hkk, e⟩ := Option.map_eq_some_iff.mp (show (toKT k).map (fun q => putG toKT a q k v) = some a' from hs)
      subst e
      obtain ⟨e2, b, e3, e4⟩ := toKT_run rk hkk
      subst e2
      refine .inr ⟨xs, kk, b, e1, ⟨kvs, q⟩, e3, e4, by rw [q.length, rpt_len r]; exact hlt, fun ru hr => ?_⟩
      obtain ⟨kvs', g1, g2⟩ := putG_t q r e4 hr rv
      obtain ⟨c5, z5⟩ := c4.write np (o := TD S.K D (storedH xs kk b ru)) (a' := putG toKT a kk (ktD kk) v) ⟨_, kvs', rfl, g1, g2⟩
      exact hK _ c5 m4 (z34.trans z5)
  · cases hs

/-- the tree and the object of a full box -/
structure BoxV (K : KP) {α β : Type} (B : Box K α β) (tr : α → DL.D) (ob : α → O) : Prop where
  frz : ∀ {D W ho a}, B.rel D W ho a → W.H D = some ho → W.frz D → Rp K W (.ref D) (tr a)
  cur : ∀ {D W ho a}, B.rel D W ho a → W.H D = some ho → OOk K W D (ob a)
theorem boxv_list {K : KP} : BoxV K (boxL K) .lst .lst := ⟨fun ⟨_, e, r⟩ h f => .lst (.inl (by rw [h, e])) f r, fun ⟨xs, e, r⟩ h => ⟨xs, by rw [h, e], r⟩⟩
theorem boxv_dict {K : KP} (t : Bool) : BoxV K (boxD K t) (.dct t) (.dct t) := by
  cases t
  · exact ⟨fun ⟨_, e, r⟩ h f => .dK (.inl (by rw [h, e])) f r, fun ⟨xs, e, r⟩ h => ⟨xs, by rw [h, e], r⟩⟩
  · exact ⟨fun ⟨_, _, e, q, r⟩ h f => .dT (.inl (by rw [h, e])) f q r, fun ⟨xs, kvs, e, q, r⟩ h => ⟨xs, kvs, by rw [h, e], q, r⟩⟩
def finVO (md : Bool) (d : DL.D) (M : Mem) : DL.D := cond md (.ref M.length) d
def finMO (md : Bool) (o : O) (M : Mem) : Mem := cond md (M ++ [o]) M
def finDO (md : Bool) (d : DL.D) (o : O) : Mo DL.D := fun M => some (.ok (finVO md d M), finMO md o M)
theorem Cs.finish {α β : Type} {K : KP} {B : Box K α β} {tr : α → DL.D} {ob : α → O} {W1 W2 : Wd} {D : Addr} {a : α} (V : BoxV K B tr ob) (md : Bool) (c : Cs K B W1 D W2 a) (np : D ∉ W1.pv) :
    ∃ W3 : Wd, W3.H = W2.H ∧ W3.M = finMO md (ob a) W2.M ∧ Le K W1 W3 ∧ Ok K W3 ∧ Rp K W3 (.ref D) (finVO md (tr a) W2.M) := by
  obtain ⟨ho, e, r⟩ := c.at'
  cases md with
  | false => exact ⟨W2.unpv W1.pv, rfl, rfl, le_unpv c.le, c.ok.unpv c.le, V.frz (B.mono (le0_unpv c.le) r) e ⟨fun n h => absurd (List.mem_of_getElem? h) (c.ok.pn D c.pv), np⟩⟩
  | true =>
    have z := le0_pub (o := ob a) c.ok c.le c.pv
    refine ⟨W2.pub W1.pv D (ob a), rfl, rfl, le_pub c.ok c.le c.pv, c.ok.pub c.le c.pv np (V.cur (B.mono z r) e), .ref ?_⟩
    show (W2.β ++ [D])[W2.M.length]? = some D
    rw [← c.ok.len]
    simp
/-- the value of a comprehension whose items are m's -/
def cmpD {α β : Type} (md : Bool) (st : α → β → Option α) (a0 : α) (tr : α → DL.D) (ob : α → O) (m : Mo (List β)) : Mo DL.D := .bnd m.ne fun ys => match foldO st a0 ys with
  | some a => finDO md (tr a) (ob a)
  | none => .stuck
theorem cmpD_inv {α β : Type} {S : SC} {W : Wd} {σ : L2.St} {md : Bool} {st : α → β → Option α} {a0 : α} {tr : α → DL.D} {ob : α → O} {m : Mo (List β)} {Q : VK} (h : Post S W σ (cmpD md st a0 tr ob m W.M) (PV S Q)) :
    ∃ ys M' a, m W.M = some (.ok ys, M') ∧ foldO st a0 ys = some a ∧ ∀ W', Le S.K W W' → Ok S.K W' → W'.M = finMO md (ob a) M' → PV S Q (finVO md (tr a) M') W' := by
  unfold cmpD Mo.bnd Mo.ne at h
  cases e : m W.M with
  | none => simp only [e] at h; exact h.elim
  | some p =>
    obtain ⟨r, M1⟩ := p
    cases r with
    | error x => simp only [e] at h; exact h.elim
    | ok ys =>
      simp only [e] at h
      cases hb : foldO st a0 ys with
      | none => rw [hb] at h; exact h.elim
      | some a => rw [hb] at h; exact ⟨ys, M1, a, rfl, hb, h⟩
/-- a body of the block's: its reading and what it says -/
structure BY (S : SC) {α β : Type} (scope : Scope) (B : Box S.K α β) (vs : List Nat) (mk : PySem.Env → Addr → Sem PySem.Fin → Sem PySem.Fin) (f : En → Mo (List β)) : Prop where
  ex : ∃ t : Addr → TB, (∀ X, InC (S.blk scope) X → X.xe = (fun _ _ => False) → ∀ D, PB X vs (mk X.env D) (t D)) ∧ SemB (S.blk scope) B t f
theorem by_list {S : SC} {scope : Scope} {elt : Expr} {e : En → Mo DL.D} {vs : List Nat} (he : EX (S.blk scope) elt e) : BY S scope (boxL S.K) vs (fun env D => mkL elt env (.ref D)) (one' e) := by
  obtain ⟨te, e1, e2⟩ := he.ex
  exact ⟨tAppend te, fun X c hx D => pb_list hx (e1 X c), semb_list e2⟩
theorem by_dict {S : SC} {scope : Scope} (t : Bool) {kx vx : Expr} {ek ev : En → Mo DL.D} {vs : List Nat} (hk : EX (S.blk scope) kx ek) (hv : EX (S.blk scope) vx ev) : BY S scope (boxD S.K t) vs (fun env D => mkD kx vx env D) (two' ek ev) := by
  obtain ⟨tk, k1, k2⟩ := hk.ex
  obtain ⟨tv, v1, v2⟩ := hv.ex
  refine ⟨tStore S.K tk tv, fun X c hx D => ?_, semb_dict k2 v2⟩
  have z := pb_dict (vs := vs) (D := D) (by have := hu_of' c; omega) hx (k1 X c) (v1 X c)
  unfold XK at z
  rw [c.P, c.w, c.K] at z
  exact z
theorem by_in {S : SC} {α β : Type} {scope : Scope} {B : Box S.K α β} {C tg iter : Expr} {ifs : List Expr} {vs ws : List Nat} {j : Nat} {cl : Comprehension} {mk : PySem.Env → Addr → Sem PySem.Fin → Sem PySem.Fin} {f : En → Mo (List β)} {f1 : En → Mo Itd'} {h : DL.D → En → Mo En} {c' : En → Mo Bool} {tg0 iter0 : Expr} {ifs0 : List Expr} {na : Sem Value}
    (cf : CF C scope tg0 iter0 ifs0 na) (hsub : ∀ i ∈ ws, i ∈ vs) (hcl : (clausesOf C)[j]? = some cl) (ha : cl.is_async = 0) (heq : ∀ (it : Value) (D : Addr) (env : PySem.Env), compTurn C j it (.ref D) env = turnOf tg iter ifs env it (mk env D) (again (.compLoop C j it (.ref D) env)))
    (hi : IX (S.blk scope) tg iter f1) (hg : GV (S.blk scope) ws tg h) (ht : TXs (S.blk scope) ifs c') (hb : BY S scope B ws mk f) (hs : ∀ (env : PySem.Env) x, foldedSetIterable iter env x = pure x := by intro _ _; rfl) :
    BY S scope B vs (fun env D => mkIn C j iter env (.ref D)) (inF f1 ws h c' f) := by
  obtain ⟨wi, i1, i2⟩ := hi.ex
  obtain ⟨g, g1, g2⟩ := hg.ex
  obtain ⟨tt, t1, t2⟩ := ht.ex
  obtain ⟨t, b1, b2⟩ := hb.ex
  refine ⟨_, fun X c hx D => pb_in hsub c.calm hx hcl ha (fun it => ⟨(cf.und _ _ _ _ _).1, (cf.und _ _ _ _ _).2.1, (cf.und X.A _ _ _ _).2.2⟩) (fun it => cf.den _ _ _ _ _ _) (fun it => heq it D X.env) (i1 X c) (g1 X c) (t1 X c) (b1 X c hx D) (hs X.env), semb_in i2 g2 t2 b2⟩
theorem lx_comp {S : SC} {α β : Type} {scope : Scope} (own : List (Str × Nat)) {B : Box S.K α β} {tr : α → DL.D} {ob : α → O} {a0 : α} {o0 : Addr → HO} {C tg iter : Expr} {ifs : List Expr} {mk : PySem.Env → Addr → Sem PySem.Fin → Sem PySem.Fin} {f : En → Mo (List β)} {f1 : En → Mo Itd'} {h : DL.D → En → Mo En} {c' : En → Mo Bool} {na : Sem Value} (md : Bool)
    (V : BoxV S.K B tr ob) (cf : CF C scope tg iter ifs na) (hnew : ∀ X, InC S X → NewC X na o0) (hB0 : ∀ D W, W.H D = some (o0 D) → B.rel D W (o0 D) a0) (hN : S.N.Nodup) (ok : BlkOk S.N S.sc scope own)
    (heq : ∀ (it : Value) (D : Addr) (env : PySem.Env), compTurn C 0 it (.ref D) env = turnOf tg iter ifs env it (mk env D) (again (.compLoop C 0 it (.ref D) env)))
    (hi : IX S tg iter f1) (hg : GV (S.blk scope) (own.map (·.2)) tg h) (ht : TXs (S.blk scope) ifs c') (hb : BY S scope B (own.map (·.2)) mk f) (hs : ∀ (env : PySem.Env) x, foldedSetIterable iter env x = pure x := by intro _ _; rfl) :
    LX S C (fun ρ => .bnd (f1 ρ) fun it => cmpD md B.step a0 tr ob (compL it.gd (turn1 (wipeR ρ (own.map (·.2))) h c' f) it.items)) := by
  obtain ⟨wi, i1, i2⟩ := hi.ex
  obtain ⟨g, g1, g2⟩ := hg.ex
  obtain ⟨tt, t1, t2⟩ := ht.ex
  obtain ⟨t, b1, b2⟩ := hb.ex
  have key := fun X (c : InC S X) => pe_comp (o0 := o0) (own := own) cf (hnew X c) c.calm (by rw [c.N]; exact hN) (i1 X c) (by rw [c.N, c.sc]; exact ok) (fun it acc D env e => by subst e; exact heq it D env) (fun s H C' cl fp => g1 _ (c.blk scope s H C' cl fp)) (fun s H C' cl fp => t1 _ (c.blk scope s H C' cl fp)) (fun s H C' cl fp D => b1 _ (c.blk scope s H C' cl fp) rfl D) (hs X.env)
  refine ⟨tComp o0 wi g tt t (own.map (·.2)), fun W σ ρ Q k st hh => ?_, fun X c => (key X c).1, fun X c => (key X c).2⟩
  refine i2 W σ ρ _ k st (Post.imp (Post.bnd hh) fun it W1 l1 k1 q J hJ D hD => ?_)
  obtain ⟨ys, M', a, hl, hfo, q⟩ := cmpD_inv q
  have np := k1.nopv hD
  have le := le_priv (o := o0 D) k1 hD
  have c0 : Cs S.K B W1 D (W1.priv D (o0 D)) a0 := ⟨le, k1.priv hD, List.mem_cons_self, o0 D, upd_same, hB0 D _ upd_same⟩
  refine loop_sem (S := S.blk scope) (W2 := W1.priv D (o0 D)) g2 t2 b2 c0 np ((st.mono l1).mono le) (fun W3 z3 k3 hgd => hJ.2 W3 (le.toZ.trans z3) k3 hgd) hl hfo fun W3 c3 m3 z3 => ?_
  obtain ⟨W4, w1, w2, w3, w4, w5⟩ := c3.finish V md np
  rw [← w1]
  exact q W4 w3 w4 (by rw [w2, m3]) _ (by rw [← m3]; exact w5)
end
end DL
namespace DL
open PySem PySem.Spec PyProof.Rows L2
section
variable {S : SC}
theorem lx_l1 (md : Bool) (own : List (Str × Nat)) {elt tg iter : Expr} {ifs : List Expr} {scope : Scope} {pos : Pos} {f : En → Mo Itd'} {h : DL.D → En → Mo En} {c : En → Mo Bool} {e : En → Mo DL.D} (hN : S.N.Nodup) (ok : BlkOk S.N S.sc scope own)
    (hi : IX S tg iter f) (hg : GV (S.blk scope) (own.map (·.2)) tg h) (ht : TXs (S.blk scope) ifs c) (he : EX (S.blk scope) elt e) (hs : ∀ (env : PySem.Env) x, foldedSetIterable iter env x = pure x := by intro _ _; rfl) :
    LX S (.ListComp elt [⟨tg, iter, ifs, 0⟩] scope pos) (fun ρ => .bnd (f ρ) fun it => cmpD md (boxL S.K).step [] .lst .lst (compL it.gd (turn1 (wipeR ρ (own.map (·.2))) h c (one' e)) it.items)) :=
  lx_comp own md boxv_list cf_list (fun _ _ => new_list) (fun _ _ _ => ⟨[], rfl, .nil⟩) hN ok (mk := fun env D => mkL elt env (.ref D)) (by intro _ _ _; rfl) hi hg ht (by_list he) hs
theorem lx_l2 (md : Bool) (own : List (Str × Nat)) (ws : List Nat) {elt tg iter tg1 iter1 : Expr} {ifs ifs1 : List Expr} {scope : Scope} {pos : Pos} {f f1 : En → Mo Itd'} {h h1 : DL.D → En → Mo En} {c c1 : En → Mo Bool} {e : En → Mo DL.D} (hN : S.N.Nodup) (ok : BlkOk S.N S.sc scope own) (hsub : ∀ i ∈ ws, i ∈ own.map (·.2))
    (hi : IX S tg iter f) (hg : GV (S.blk scope) (own.map (·.2)) tg h) (ht : TXs (S.blk scope) ifs c) (hi1 : IX (S.blk scope) tg1 iter1 f1) (hg1 : GV (S.blk scope) ws tg1 h1) (ht1 : TXs (S.blk scope) ifs1 c1) (he : EX (S.blk scope) elt e)
    (hs : ∀ (env : PySem.Env) x, foldedSetIterable iter env x = pure x := by intro _ _; rfl) (hs1 : ∀ (env : PySem.Env) x, foldedSetIterable iter1 env x = pure x := by intro _ _; rfl) :
    LX S (.ListComp elt [⟨tg, iter, ifs, 0⟩, ⟨tg1, iter1, ifs1, 0⟩] scope pos) (fun ρ => .bnd (f ρ) fun it => cmpD md (boxL S.K).step [] .lst .lst (compL it.gd (turn1 (wipeR ρ (own.map (·.2))) h c (inF f1 ws h1 c1 (one' e))) it.items)) :=
  lx_comp own md boxv_list cf_list (fun _ _ => new_list) (fun _ _ _ => ⟨[], rfl, .nil⟩) hN ok (mk := fun env D => mkIn (.ListComp elt [⟨tg, iter, ifs, 0⟩, ⟨tg1, iter1, ifs1, 0⟩] scope pos) 1 iter1 env (.ref D)) (by intro _ _ _; rfl) hi hg ht
    (by_in (mk := fun env D => mkL elt env (.ref D)) cf_list hsub rfl rfl (by intro _ _ _; rfl) hi1 hg1 ht1 (by_list he) hs1) hs
theorem lx_d1 (md t : Bool) (own : List (Str × Nat)) {kx vx tg iter : Expr} {ifs : List Expr} {scope : Scope} {pos : Pos} {f : En → Mo Itd'} {h : DL.D → En → Mo En} {c : En → Mo Bool} {ek ev : En → Mo DL.D} (hN : S.N.Nodup) (ok : BlkOk S.N S.sc scope own)
    (hi : IX S tg iter f) (hg : GV (S.blk scope) (own.map (·.2)) tg h) (ht : TXs (S.blk scope) ifs c) (hk : EX (S.blk scope) kx ek) (hv : EX (S.blk scope) vx ev) (hs : ∀ (env : PySem.Env) x, foldedSetIterable iter env x = pure x := by intro _ _; rfl) :
    LX S (.DictComp kx vx [⟨tg, iter, ifs, 0⟩] scope pos) (fun ρ => .bnd (f ρ) fun it => cmpD md (boxD S.K t).step [] (.dct t) (.dct t) (compL it.gd (turn1 (wipeR ρ (own.map (·.2))) h c (two' ek ev)) it.items)) := by
  cases t
  · exact lx_comp (o0 := fun _ => .dK []) own md (boxv_dict false) cf_dict (fun _ _ => new_dK) (fun _ _ _ => ⟨[], rfl, .nil⟩) hN ok (mk := fun env D => mkD kx vx env D) (by intro _ _ _; rfl) hi hg ht (by_dict false hk hv) hs
  · exact lx_comp (o0 := fun D => TD S.K D []) own md (boxv_dict true) cf_dict (fun _ _ => new_dT) (fun _ _ _ => ⟨[], [], rfl, .nil, .nil⟩) hN ok (mk := fun env D => mkD kx vx env D) (by intro _ _ _; rfl) hi hg ht (by_dict true hk hv) hs
theorem lx_d2 (md t : Bool) (own : List (Str × Nat)) (ws : List Nat) {kx vx tg iter tg1 iter1 : Expr} {ifs ifs1 : List Expr} {scope : Scope} {pos : Pos} {f f1 : En → Mo Itd'} {h h1 : DL.D → En → Mo En} {c c1 : En → Mo Bool} {ek ev : En → Mo DL.D} (hN : S.N.Nodup) (ok : BlkOk S.N S.sc scope own) (hsub : ∀ i ∈ ws, i ∈ own.map (·.2))
    (hi : IX S tg iter f) (hg : GV (S.blk scope) (own.map (·.2)) tg h) (ht : TXs (S.blk scope) ifs c) (hi1 : IX (S.blk scope) tg1 iter1 f1) (hg1 : GV (S.blk scope) ws tg1 h1) (ht1 : TXs (S.blk scope) ifs1 c1) (hk : EX (S.blk scope) kx ek) (hv : EX (S.blk scope) vx ev)
    (hs : ∀ (env : PySem.Env) x, foldedSetIterable iter env x = pure x := by intro _ _; rfl) (hs1 : ∀ (env : PySem.Env) x, foldedSetIterable iter1 env x = pure x := by intro _ _; rfl) :
    LX S (.DictComp kx vx [⟨tg, iter, ifs, 0⟩, ⟨tg1, iter1, ifs1, 0⟩] scope pos) (fun ρ => .bnd (f ρ) fun it => cmpD md (boxD S.K t).step [] (.dct t) (.dct t) (compL it.gd (turn1 (wipeR ρ (own.map (·.2))) h c (inF f1 ws h1 c1 (two' ek ev))) it.items)) := by
  cases t
  · exact lx_comp (o0 := fun _ => .dK []) own md (boxv_dict false) cf_dict (fun _ _ => new_dK) (fun _ _ _ => ⟨[], rfl, .nil⟩) hN ok (mk := fun env D => mkIn (.DictComp kx vx [⟨tg, iter, ifs, 0⟩, ⟨tg1, iter1, ifs1, 0⟩] scope pos) 1 iter1 env (.ref D)) (by intro _ _ _; rfl) hi hg ht
      (by_in (mk := fun env D => mkD kx vx env D) cf_dict hsub rfl rfl (by intro _ _ _; rfl) hi1 hg1 ht1 (by_dict false hk hv) hs1) hs
  · exact lx_comp (o0 := fun D => TD S.K D []) own md (boxv_dict true) cf_dict (fun _ _ => new_dT) (fun _ _ _ => ⟨[], [], rfl, .nil, .nil⟩) hN ok (mk := fun env D => mkIn (.DictComp kx vx [⟨tg, iter, ifs, 0⟩, ⟨tg1, iter1, ifs1, 0⟩] scope pos) 1 iter1 env (.ref D)) (by intro _ _ _; rfl) hi hg ht
      (by_in (mk := fun env D => mkD kx vx env D) cf_dict hsub rfl rfl (by intro _ _ _; rfl) hi1 hg1 ht1 (by_dict true hk hv) hs1) hs
theorem sw_d {X : Cx} {kx vx : Expr} {gs : List Comprehension} {scope : Scope} {pos py : Pos} {y : Str} {l : Nat} (c : InC S X) (hk : S.sc.kind = .function) (hy : S.sc.names.lookup y = some .local) (h : swB S scope y py.line pos.line = true) : swapsWith (.DictComp kx vx gs scope pos) (some (.Name y py)) l X.env = pure true :=
  sw_lc (elt := kx) (gs := gs) (l := l) c hk hy h
theorem sw_dF {X : Cx} {kx vx : Expr} {gs : List Comprehension} {scope : Scope} {pos py : Pos} {y : Str} {l : Nat} (c : InC S X) (h : swB S scope y py.line pos.line = false) : swapsWith (.DictComp kx vx gs scope pos) (some (.Name y py)) l X.env = pure false :=
  sw_lcF (elt := kx) (gs := gs) (l := l) c h
theorem sw_dC {X : Cx} {kx vx : Expr} {gs : List Comprehension} {scope : Scope} {pos py : Pos} {y : Str} {l : Nat} (c : InC S X) (h : S.sc.names.lookup y = some .cell) : swapsWith (.DictComp kx vx gs scope pos) (some (.Name y py)) l X.env = pure false :=
  sw_lcC (elt := kx) (gs := gs) (l := l) c h

def tDNewTD (K : KP) : TE := fun _ H Q => ∀ p, H p = none → Q (.ref p) (upd H p (TD K p []))
theorem pe_dnewTD {X : Cx} {pos : Pos} {K : KP} : PE X (.Dict [] [] pos) (tDNewTD K) := ⟨fun pins s σ H Q I h =>
  wpAny_Dict_empty ⟨.ref s.heap.objs.size, _, I.laid (a := s.heap.objs.size) (o := TD K s.heap.objs.size []) (t' := s.toks) (fun _ _ q => Heap.get?_push_of_some _ q) (Nat.le_refl _) (td_new (td_empty s.heap I.big)), rfl, h _ (I.hok.fresh (Nat.le_refl _))⟩⟩
/-- a new container, closed or changing -/
theorem post_newO {W : Wd} {σ : L2.St} {md : Bool} {d : DL.D} {o : O} {Q : VK} {ho : Addr → HO} (k : Ok S.K W) (h : Post S W σ (finDO md d o W.M) (PV S Q))
    (h1 : ∀ W' p, Le S.K W W' → W'.H p = some (ho p) → W'.frz p → Rp S.K W' (.ref p) d) (h2 : ∀ W' p, Le S.K W W' → W'.H p = some (ho p) → OOk S.K W' p o) : ∀ p, W.H p = none → Q (.ref p) (upd W.H p (ho p)) := fun p hp => by
  cases md with
  | false => exact h (W.lay p (ho p)) (le_lay k hp) (k.lay hp) rfl _ (h1 _ p (le_lay k hp) upd_same (k.frz_new hp))
  | true =>
    have l := le_grow (K := S.K) (ho := ho p) (o := o) k hp
    refine h (W.grow p (ho p) o) l (k.grow hp (h2 _ p l upd_same)) rfl _ (.ref ?_)
    show (W.β ++ [p])[W.M.length]? = some p
    rw [← k.len]; simp
theorem ex_dict0 (md t : Bool) {pos : Pos} : EX S (.Dict [] [] pos) (fun _ => finDO md (.dct t []) (.dct t [])) := by
  cases t
  · exact ⟨tDNewK, fun X c => pe_dnewK, fun W σ ρ Q k st h => post_newO (ho := fun _ => .dK []) k h (fun W' p _ e f => .dK (.inl e) f .nil) fun W' p _ e => ⟨[], e, .nil⟩⟩
  · exact ⟨tDNewTD S.K, fun X c => pe_dnewTD, fun W σ ρ Q k st h => post_newO (ho := fun p => TD S.K p []) k h (fun W' p _ e f => .dT (.inl e) f .nil .nil) fun W' p _ e => ⟨[], [], e, .nil, .nil⟩⟩
end
end DL
namespace DL
open PySem PySem.Spec PyProof.Rows L2
section
variable {S : SC}
/-- raise X('text') of a class of one's own below ValueError -/
theorem sx_raise {C : Addr} {x m : Str} {j : Nat} {p p2 pos pos' : Pos} (gC : S.mg x = some (.ref C)) (q : PySem.W.excIn S.F C He.veBase "ValueError.__new__" = true ∧ PySem.W.keepIn S.F (.ref C) = true ∧ PySem.W.subIn S.F (.ref C) (.type "BaseException") = some true ∧ PySem.W.typeIn S.F (.ref C) = some (.type "type")) (hg : Gs S x)
    (hdb : (x == ("__debug__" : Str)) = false := by decide) : SX S (.Raise (some (.Call (.Name x p) [.Constant (.str m) j p2] [] pos)) none pos') (fun ρ M => some (.exc x ρ, M)) := by
  refine ⟨fun _ σ H => S.W (.ref C) none σ H, fun X c => ?_, fun W σ ρ D k st h => PostS.at k h σ st C gC⟩
  exact L2N.ps_raise c.calm c.takes (L2N.pmk_own PySem.F.excBase_ValueError (by rw [c.K]; exact q.1) (by rw [c.mg]; exact gC) (by rw [c.K]; exact q.2.1) (raises_own (by rw [c.K]; exact q.2.2.1) (by rw [c.K]; exact q.2.2.2)) (gl_of c hg) hdb)
/-- *xs in a display -/
def starD (d : DL.D) : Mo (List DL.D) := fun M => match seqB M d with
  | some l => some (.ok l, M)
  | none => none
theorem ax_star {e : Expr} {es : List Expr} {p : Pos} {f : En → Mo DL.D} {g : En → Mo (List DL.D)} (h : EX S e f) (hr : AX S es g) (hs : ∀ env : PySem.Env, starEach (.Starred e p :: es) env = (true, eval e env) :: starEach es env := by intro; rfl) :
    AX S (.Starred e p :: es) (fun ρ => .bnd (.bnd (f ρ) starD) fun l => .bnd (g ρ) fun ds => .ret (l ++ ds)) := by
  obtain ⟨ta, a1, a2⟩ := h.ex
  obtain ⟨tb, b1, b2⟩ := hr.ex
  refine ⟨StX.tStar S.F ta tb, fun X c => by have z := StX.pa_star (a1 X c) (b1 X c) (hs X.env); rw [c.K] at z; exact z, fun W σ ρ Q k st h => ?_⟩
  refine a2 W σ ρ _ k st (Post.imp (Post.bnd (Post.bnd h)) fun d W1 l1 k1 h1 v rv => ?_)
  unfold starD at h1
  cases e : seqB W1.M d with
  | none => rw [e] at h1; exact h1.elim
  | some l =>
    rw [e] at h1
    obtain ⟨a, xs, rfl, hq, r⟩ := seqB_run k1 rv e
    have h1 := post_ok k1 h1
    exact ⟨a, xs, rfl, hq.symm, b2 W1 σ ρ _ k1 (st.mono l1) (Post.imp (Post.bnd h1) fun ds W2 l2 k2 h2 ys ry => Post.ret k2 h2 _ ((r.mono l2).append ry))⟩
end
end DL
namespace DL
open PySem PySem.Spec PyProof.Rows L2
section
variable {P : Program} {w : World} {A : Around} {E : Value → Shared → Prop} {s : Shared} {a x : Addr} {k : List Int} {L : List (Addr × List Int)} {es : Array (Int × Value)} {ep : Nat} {t : SetTable}
/-- found.add((..)) -/
theorem setT_add (R : SetTR P w s.heap a L es ep t) (hx : IsT P w s.heap k x) (hu : A.units + 2 < cLine) (hfew : L.length + 1 < 64) {Q : Value → Shared → Prop}
    (hQ : ∀ h' L' es' ep' t', Heap.SameBut a s.heap h' → SetTR P w h' a L' es' ep' t' → (k ∈ L.map (·.2) → L' = L) → (k ∉ L.map (·.2) → L'.Perm ((x, k) :: L)) → Q .none { s with heap := h', toks := s.toks + (k.length + 1) }) :
    wpAny (model P w) A (call (.builtin "set.add") [.ref a, .ref x]) Q E s := by
  obtain ⟨o, ho, hex, hd⟩ := R.ob
  refine wpAny_call_entry F.slot_set_add (show s.TypeIs (.ref a) "set" from ⟨o, ho, hex.1⟩) F.entry_set_add ?_ (F.args_set_add_2 _ _)
  unfold Builtin.«set.add» Builtin.Frozenset.oneOther
  simp only [List.isEmpty_nil, bind_assoc]
  unfold Builtin.Frozenset.addrOf setAdd
  refine wpAny_bind (wpAny_pure ?_)
  try dsimp only
  refine wpAny_bind (wpAny_pure ?_)
  try dsimp only
  refine wpAny_bind ?_
  refine wpAny_holding ?_
  have hu1 : A.in1.units < cLine := by show A.units + 1 < cLine; omega
  refine wpAny_bind (wpAny_pyHash_tuple hu1 hx ?_)
  refine add_at (s := { s with toks := s.toks + (k.length + 1) }) R hx hu1 hfew fun b h' L' es' ep' t' sb r c1 c2 => ?_
  show wpAny _ _ (ret Value.none) _ _ _
  exact wpAny_pure ⟨_, rfl, hQ h' L' es' ep' t' sb r c1 c2⟩
end
section
variable {X : Cx} {pins : List (Addr × Obj)} {σ : L2.St} {H : Hp} {s : Shared} {D : Addr} {L : List (Addr × List Int)}
theorem setTO_add {E : Value → Shared → Prop} {x : Addr} {k : List Int} {Q : Value → Shared → Prop} (I : Inv X pins σ H s) (hD : H D = some (SetTO X.prog X.w D L)) (ht : ∀ p ∈ L, SqT X.K H p.1 (p.2.map V.int)) (hx : SqT X.K H x (k.map V.int)) (hu : X.A.units + 2 < cLine) (hfew : L.length + 1 < 64)
    (h : ∀ s' L', (k ∈ L.map (·.2) → L' = L) → (k ∉ L.map (·.2) → L'.Perm ((x, k) :: L)) → Inv X pins σ (upd H D (SetTO X.prog X.w D L')) s' → Q .none s') : wpAny (model X.prog X.w) X.A (call (.builtin "set.add") [.ref D, .ref x]) Q E s := by
  have R0 : SetT0 X.prog X.w s.heap D L := (I.hok D _ hD).1
  obtain ⟨es, ep, t, R⟩ := R0.full fun p hp => I.isT (ht p hp)
  refine setT_add R (I.isT hx) hu hfew fun h' L' es' ep' t' sb r c1 c2 => ?_
  obtain ⟨o, ho, _⟩ := r.ob
  exact h _ L' c1 c2 (I.write (e := D) (t' := s.toks + (k.length + 1)) (by rw [hD]; trivial) (.inl rfl) (fun b u hb hu => (sb.2 b hb).trans hu) ⟨o, ho⟩ (setTO_new r.t0))
def mkS (elt : Expr) (env : PySem.Env) (D : Addr) (k : Sem PySem.Fin) : Sem PySem.Fin := (eval elt env >>= fun v => standAt elt.pos >>= fun _ => call (.builtin "set.add") [.ref D, v] >>= fun _ => pure ()) >>= fun _ => k
def tAddS (K : KP) (te : TE) (D : Addr) : TB := fun σ H Kt => te σ H fun y H4 => ∃ (x : Addr) (k : List Int) (L : List (Addr × List Int)), y = .ref x ∧ SqT K.K H4 x (k.map V.int) ∧ H4 D = some (SetTO K.P K.w D L) ∧ (∀ p ∈ L, SqT K.K H4 p.1 (p.2.map V.int)) ∧ L.length + 1 < 64 ∧
  ∀ L', (k ∈ L.map (·.2) → L' = L) → (k ∉ L.map (·.2) → L'.Perm ((x, k) :: L)) → Kt (upd H4 D (SetTO K.P K.w D L'))
end
section
variable {Xb : Cx}
theorem pb_set {elt : Expr} {te : TE} {vs : List Nat} {D : Addr} (hu : Xb.A.units + 2 < cLine) (hxe : Xb.xe = fun _ _ => False) (he : PE Xb elt te) : PB Xb vs (mkS elt Xb.env D) (tAddS (XK Xb) te D) := by
  refine ⟨fun pins s σ H K k Q E I h hk => ?_⟩
  refine wpAny_bind (wpAny_bind (wpAny_mono (he.run pins s σ H _ I h) (fun u s1 ⟨y, H4, I4, r4, x, ks, L, hy, hx, hD, ht, hz, q⟩ => ?_) fun _ _ z => by rw [hxe] at z; exact z.elim))
  subst hy
  obtain rfl : u = Value.ref x := r4
  exact wpAny_bind (wpAny_standAt (wpAny_bind (setTO_add I4 hD ht hx hu hz fun s2 L' c1 c2 I5 => wpAny_pure (hk s2 _ (inv_wipe I5 vs) (q L' c1 c2)))))
theorem cf_set {elt tg iter : Expr} {ifs : List Expr} {gs : List Comprehension} {scope : Scope} {pos : Pos} : CF (.SetComp elt (⟨tg, iter, ifs, 0⟩ :: gs) scope pos) scope tg iter ifs (newSet (.type "set")) :=
  ⟨⟨gs, rfl⟩, fun A j it acc env => ⟨rfl, rfl, rfl⟩, fun P w j it acc env => ⟨rfl, rfl⟩, fun env => ⟨_, rfl⟩, fun env => ⟨_, fun u => rfl⟩⟩
theorem new_setT {X : Cx} : NewC X (newSet (.type "set")) (fun D => SetTO X.prog X.w D []) :=
  ⟨{ cls := .type "set", dict := none, data := .set #[] 0 (.fresh 0 0 (!X.w.params.followText "set-order")) }, rfl, fun A s Q E h => PpSet.newSet_ok h, fun H h _ => setTO_new (setTR_fresh (Heap.get?_push_size _ rfl)).t0⟩
end
def boxS (K : KP) : Box K (List (List Int)) (List Int) where
  rel := fun D W ho l => ∃ L, ho = SetTO K.P K.w D L ∧ (∀ p ∈ L, SqT K.K W.H p.1 (p.2.map V.int)) ∧ (L.map (·.2)).Perm l
  live := fun ⟨_, e, _⟩ => by rw [e]; rfl
  mono := fun z ⟨L, e, t, p⟩ => ⟨L, e, fun q hq => z.t _ _ (t q hq), p⟩
  step := fun l y => if l.length + 1 < 64 then some (if y ∈ l then l else l ++ [y]) else none
def toI : DL.D → Option Int
  | .int i => some i
  | _ => none
def toIs : DL.D → Option (List Int)
  | .tup l => l.mapM toI
  | _ => none
theorem toI_run {K : KP} {W : Wd} {v : V} {d : DL.D} {i : Int} (r : Rp K W v d) (h : toI d = some i) : v = .int i ∧ d = .int i := by
  cases r <;> first
    | (cases h; exact ⟨rfl, rfl⟩)
    | cases h
theorem toIL_run {K : KP} {W : Wd} : ∀ {vs : List V} {l : List DL.D} {ks : List Int}, RpA K W vs l → l.mapM toI = some ks → vs = ks.map V.int ∧ l = ks.map .int
  | _, _, ks, .nil, h => by
    simp at h; subst h; exact ⟨rfl, rfl⟩
  | _, _, ks, .cons (d := d) (ds := ds) r t, h => by
    rw [List.mapM_cons] at h
    cases e1 : toI d with
    | none => rw [e1] at h; cases h
    | some i =>
      cases e2 : ds.mapM toI with
      | none => rw [e1, e2] at h; cases h
      | some r' =>
        rw [e1, e2] at h; cases h
        obtain ⟨rfl, rfl⟩ := toI_run r e1
        obtain ⟨q1, q2⟩ := toIL_run t e2
        exact ⟨by rw [q1]; rfl, by rw [q2]; rfl⟩
theorem toIs_run {K : KP} {W : Wd} {v : V} {d : DL.D} {ks : List Int} (r : Rp K W v d) (h : toIs d = some ks) : d = .tup (ks.map .int) ∧ ∃ b, v = .ref b ∧ SqT K.K W.H b (ks.map V.int) := by
  cases r with
  | tup h1 h2 =>
    obtain ⟨q1, q2⟩ := toIL_run h2 h
    subst q1 q2
    exact ⟨rfl, _, rfl, h1⟩
  | _ => cases h
def oneS (e : En → Mo DL.D) (ρ : En) : Mo (List (List Int)) := .bnd (e ρ) fun y => match toIs y with
  | some k => .ret [k]
  | none => .stuck
section
variable {S : SC}
theorem semb_set {te : TE} {e : En → Mo DL.D} (he : SemE S te e) : SemB S (boxS S.K) (tAddS S.K te) (oneS e) := by
  intro D W1 W2 a a' σ ρ Kt ys M' cs np st hf hfo hK
  obtain ⟨y, M3, q1, q2⟩ := bnd_ok (m := e ρ) hf
  cases ek : toIs y with
  | none => rw [ek] at q2; cases q2
  | some k =>
    rw [ek] at q2
    obtain ⟨rfl, rfl⟩ := ret_ok q2
    refine he W2 σ ρ _ cs.ok st (post_of q1 fun W3 l3 k3 m3 v rv => ?_)
    have c3 := cs.mono l3 k3
    obtain ⟨ho, e1, L, rfl, ht, pm⟩ := c3.at'
    obtain ⟨rfl, x, rfl, hx⟩ := toIs_run rv ek
    have hs : (if a.length + 1 < 64 then some (if k ∈ a then a else a ++ [k]) else none) = some a' := by
      have z : ((if a.length + 1 < 64 then some (if k ∈ a then a else a ++ [k]) else none).bind fun x => foldO (boxS S.K).step x []) = some a' := hfo
      split at z
      · rename_i q; rw [if_pos q]; exact z
      · cases z
    split at hs
    · rename_i hlt
      have hl : L.length = a.length := by rw [← pm.length_eq, List.length_map]
      refine ⟨x, k, L, rfl, hx, e1, ht, by omega, fun L' c1 c2 => ?_⟩
      have key : (∀ p ∈ L', SqT S.K.K W3.H p.1 (p.2.map V.int)) ∧ (L'.map (·.2)).Perm a' := by
        cases hs
        by_cases hm : k ∈ L.map (·.2)
        · rw [c1 hm, if_pos (pm.mem_iff.mp hm)]
          exact ⟨ht, pm⟩
        · rw [if_neg fun z => hm (pm.mem_iff.mpr z)]
          have p2 := c2 hm
          refine ⟨fun p hp => ?_, ?_⟩
          · rcases List.mem_cons.mp (p2.mem_iff.mp hp) with rfl | hp
            · exact hx
            · exact ht p hp
          · refine (p2.map (·.2)).trans ?_
            show (k :: L.map (·.2)).Perm (a ++ [k])
            exact (pm.cons k).trans (List.perm_append_comm (l₁ := [k]) (l₂ := a))
      obtain ⟨c4, z4⟩ := c3.write np (o := SetTO S.K.P S.K.w D L') (a' := a') ⟨L', rfl, key.1, key.2⟩
      exact hK _ c4 m3 (l3.toZ.trans z4)
    · cases hs
theorem by_set {scope : Scope} {elt : Expr} {e : En → Mo DL.D} {vs : List Nat} (he : EX (S.blk scope) elt e) : BY S scope (boxS S.K) vs (fun env D => mkS elt env D) (oneS e) := by
  obtain ⟨te, e1, e2⟩ := he.ex
  refine ⟨tAddS S.K te, fun X c hx D => ?_, semb_set e2⟩
  have z := pb_set (vs := vs) (D := D) (by have := hu_of' c; omega) hx (e1 X c)
  unfold XK at z
  rw [c.P, c.w, c.K] at z
  exact z
end
end DL
namespace DL
open PySem PySem.Spec PyProof.Rows L2
/-- what was made is locked for good -/
def LkH (Q : Hp → Prop) : Hp → Prop := fun H' => ∃ a u, H' a = some u ∧ Mut (some u) ∧ ∀ o, Q (upd H' a (.frz o u))
def tLk (t : TE) : TE := fun σ H Q => t σ H fun v => LkH (Q v)
section
variable {X : Cx}
theorem pe_lk {e : Expr} {t : TE} (h : PE X e t) : PE X e (tLk t) := ⟨fun pins s σ H Q I q => thn (h.run pins s σ H _ I q) fun u s1 ⟨v, H1, I1, r1, a, w, e1, mu, q1⟩ => by
  obtain ⟨o, I2⟩ := I1.lock e1 mu
  exact ⟨v, _, I2, r1, q1 o⟩⟩
theorem ps_lk {st : Stmt} {t : TE} {i : Nat} (h : PS X st (tAsg t (gName i))) : PS X st (tAsg (tLk t) (gName i)) := ⟨fun pins s σ H D I q => by
  refine thn (h.run pins s σ H ⟨fun σ' => LkH (D.nx σ'), D.rt, D.bk, D.ct⟩ I q) fun fl s1 z => ?_
  cases fl with
  | next =>
    obtain ⟨σ', H', I', a, w, e1, mu, q1⟩ := z
    obtain ⟨o, I2⟩ := I'.lock e1 mu
    exact ⟨σ', _, I2, q1 o⟩
  | brk => exact z
  | cont => exact z
  | ret u => exact z⟩
end
section
variable {K : KP} {W1 W2 : Wd} {D : Addr} {a : List (List Int)}
theorem Cs.finishS (c : Cs K (boxS K) W1 D W2 a) (np : D ∉ W1.pv) : ∃ u, W2.H D = some u ∧ Mut (some u) ∧ ∀ o, ∃ W3 : Wd, W3.H = upd W2.H D (.frz o u) ∧ W3.M = W2.M ∧ Le K W1 W3 ∧ Ok K W3 ∧ Rp K W3 (.ref D) (.set a) := by
  obtain ⟨ho, e, L, rfl, ht, pm⟩ := c.at'
  refine ⟨_, e, True.intro, fun o => ?_⟩
  have l1 := le_unpv c.le
  have k1 := c.ok.unpv c.le
  have f1 : (W2.unpv W1.pv).frz D := ⟨fun n h => absurd (List.mem_of_getElem? h) (c.ok.pn D c.pv), np⟩
  have l2 := le_lock (o := o) k1 (u := SetTO K.P K.w D L) rfl e f1
  exact ⟨(W2.unpv W1.pv).lock D o (SetTO K.P K.w D L), rfl, rfl, l1.trans l2, k1.lock rfl e f1, .set ⟨o, L, upd_same, fun p hp => l2.t _ _ (ht p hp), pm⟩⟩
end
def setD (m : Mo (List (List Int))) : Mo DL.D := .bnd m.ne fun ys => match foldO (fun (l : List (List Int)) y => if l.length + 1 < 64 then some (if y ∈ l then l else l ++ [y]) else none) [] ys with
  | some a => .ret (.set a)
  | none => .stuck
theorem setD_inv {S : SC} {W : Wd} {σ : L2.St} {m : Mo (List (List Int))} {Q : VK} (h : Post S W σ (setD m W.M) (PV S Q)) :
    ∃ ys M' a, m W.M = some (.ok ys, M') ∧ foldO (boxS S.K).step [] ys = some a ∧ ∀ W', Le S.K W W' → Ok S.K W' → W'.M = M' → PV S Q (.set a) W' := by
  unfold setD Mo.bnd Mo.ne at h
  cases e : m W.M with
  | none => simp only [e] at h; exact h.elim
  | some p =>
    obtain ⟨r, M1⟩ := p
    cases r with
    | error x => simp only [e] at h; exact h.elim
    | ok ys =>
      simp only [e] at h
      cases hb : foldO (fun (l : List (List Int)) y => if l.length + 1 < 64 then some (if y ∈ l then l else l ++ [y]) else none) [] ys with
      | none => rw [hb] at h; exact h.elim
      | some a => rw [hb] at h; exact ⟨ys, M1, a, rfl, hb, h⟩
theorem lx_set {S : SC} {scope : Scope} (own : List (Str × Nat)) {C tg iter : Expr} {ifs : List Expr} {mk : PySem.Env → Addr → Sem PySem.Fin → Sem PySem.Fin} {f : En → Mo (List (List Int))} {f1 : En → Mo Itd'} {h : DL.D → En → Mo En} {c' : En → Mo Bool}
    (cf : CF C scope tg iter ifs (newSet (.type "set"))) (hN : S.N.Nodup) (ok : BlkOk S.N S.sc scope own)
    (heq : ∀ (it : Value) (D : Addr) (env : PySem.Env), compTurn C 0 it (.ref D) env = turnOf tg iter ifs env it (mk env D) (again (.compLoop C 0 it (.ref D) env)))
    (hi : IX S tg iter f1) (hg : GV (S.blk scope) (own.map (·.2)) tg h) (ht : TXs (S.blk scope) ifs c') (hb : BY S scope (boxS S.K) (own.map (·.2)) mk f) (hs : ∀ (env : PySem.Env) x, foldedSetIterable iter env x = pure x := by intro _ _; rfl) :
    LX S C (fun ρ => .bnd (f1 ρ) fun it => setD (compL it.gd (turn1 (wipeR ρ (own.map (·.2))) h c' f) it.items)) := by
  obtain ⟨wi, i1, i2⟩ := hi.ex
  obtain ⟨g, g1, g2⟩ := hg.ex
  obtain ⟨tt, t1, t2⟩ := ht.ex
  obtain ⟨t, b1, b2⟩ := hb.ex
  have hnew : ∀ X, InC S X → NewC X (newSet (.type "set")) (fun D => SetTO S.K.P S.K.w D []) := fun X c => by
    have z := new_setT (X := X)
    rw [c.P, c.w] at z
    refine ⟨?_⟩
    have z2 := (new_setT (X := X)).ex
    rw [c.P, c.w] at z2 ⊢
    exact z2
  have key := fun X (c : InC S X) => pe_comp (o0 := fun D => SetTO S.K.P S.K.w D []) (own := own) cf (hnew X c) c.calm (by rw [c.N]; exact hN) (i1 X c) (by rw [c.N, c.sc]; exact ok) (fun it acc D env e => by subst e; exact heq it D env) (fun s H C' cl fp => g1 _ (c.blk scope s H C' cl fp)) (fun s H C' cl fp => t1 _ (c.blk scope s H C' cl fp)) (fun s H C' cl fp D => b1 _ (c.blk scope s H C' cl fp) rfl D) (hs X.env)
  refine ⟨tLk (tComp (fun D => SetTO S.K.P S.K.w D []) wi g tt t (own.map (·.2))), fun W σ ρ Q k st hh => ?_, fun X c => pe_lk (key X c).1, fun X c i y py spos hy hyl hsw => ps_lk ((key X c).2 i y py spos hy hyl hsw)⟩
  refine i2 W σ ρ _ k st (Post.imp (Post.bnd hh) fun it W1 l1 k1 q J hJ D hD => ?_)
  obtain ⟨ys, M', a, hl, hfo, q⟩ := setD_inv q
  have np := k1.nopv hD
  have le := le_priv (o := SetTO S.K.P S.K.w D []) k1 hD
  have c0 : Cs S.K (boxS S.K) W1 D (W1.priv D (SetTO S.K.P S.K.w D [])) [] := ⟨le, k1.priv hD, List.mem_cons_self, SetTO S.K.P S.K.w D [], upd_same, [], rfl, (fun p hp => by cases hp), List.Perm.nil⟩
  refine loop_sem (S := S.blk scope) (W2 := W1.priv D (SetTO S.K.P S.K.w D [])) g2 t2 b2 c0 np ((st.mono l1).mono le) (fun W3 z3 k3 hgd => hJ.2 W3 (le.toZ.trans z3) k3 hgd) hl hfo fun W3 c3 m3 z3 => ?_
  obtain ⟨u, e, mu, fin⟩ := c3.finishS np
  refine ⟨D, u, e, mu, fun o => ?_⟩
  obtain ⟨W4, w1, w2, w3, w4, w5⟩ := fin o
  rw [← w1]
  exact q W4 w3 w4 (by rw [w2, m3]) _ w5
section
variable {S : SC}
theorem lx_s1 (own : List (Str × Nat)) {elt tg iter : Expr} {ifs : List Expr} {scope : Scope} {pos : Pos} {f : En → Mo Itd'} {h : DL.D → En → Mo En} {c : En → Mo Bool} {e : En → Mo DL.D} (hN : S.N.Nodup) (ok : BlkOk S.N S.sc scope own)
    (hi : IX S tg iter f) (hg : GV (S.blk scope) (own.map (·.2)) tg h) (ht : TXs (S.blk scope) ifs c) (he : EX (S.blk scope) elt e) (hs : ∀ (env : PySem.Env) x, foldedSetIterable iter env x = pure x := by intro _ _; rfl) :
    LX S (.SetComp elt [⟨tg, iter, ifs, 0⟩] scope pos) (fun ρ => .bnd (f ρ) fun it => setD (compL it.gd (turn1 (wipeR ρ (own.map (·.2))) h c (oneS e)) it.items)) :=
  lx_set own cf_set hN ok (mk := fun env D => mkS elt env D) (by intro _ _ _; rfl) hi hg ht (by_set he) hs
theorem lx_s3 (own : List (Str × Nat)) (ws ws2 : List Nat) {elt tg iter tg1 iter1 tg2 iter2 : Expr} {ifs ifs1 ifs2 : List Expr} {scope : Scope} {pos : Pos} {f f1 f2 : En → Mo Itd'} {h h1 h2 : DL.D → En → Mo En} {c c1 c2 : En → Mo Bool} {e : En → Mo DL.D} (hN : S.N.Nodup) (ok : BlkOk S.N S.sc scope own)
    (hsub : ∀ i ∈ ws, i ∈ own.map (·.2)) (hsub2 : ∀ i ∈ ws2, i ∈ ws)
    (hi : IX S tg iter f) (hg : GV (S.blk scope) (own.map (·.2)) tg h) (ht : TXs (S.blk scope) ifs c) (hi1 : IX (S.blk scope) tg1 iter1 f1) (hg1 : GV (S.blk scope) ws tg1 h1) (ht1 : TXs (S.blk scope) ifs1 c1)
    (hi2 : IX (S.blk scope) tg2 iter2 f2) (hg2 : GV (S.blk scope) ws2 tg2 h2) (ht2 : TXs (S.blk scope) ifs2 c2) (he : EX (S.blk scope) elt e)
    (hs : ∀ (env : PySem.Env) x, foldedSetIterable iter env x = pure x := by intro _ _; rfl) (hs1 : ∀ (env : PySem.Env) x, foldedSetIterable iter1 env x = pure x := by intro _ _; rfl) (hs2 : ∀ (env : PySem.Env) x, foldedSetIterable iter2 env x = pure x := by intro _ _; rfl) :
    LX S (.SetComp elt [⟨tg, iter, ifs, 0⟩, ⟨tg1, iter1, ifs1, 0⟩, ⟨tg2, iter2, ifs2, 0⟩] scope pos) (fun ρ => .bnd (f ρ) fun it => setD (compL it.gd (turn1 (wipeR ρ (own.map (·.2))) h c (inF f1 ws h1 c1 (inF f2 ws2 h2 c2 (oneS e)))) it.items)) :=
  lx_set own cf_set hN ok (mk := fun env D => mkIn (.SetComp elt [⟨tg, iter, ifs, 0⟩, ⟨tg1, iter1, ifs1, 0⟩, ⟨tg2, iter2, ifs2, 0⟩] scope pos) 1 iter1 env (.ref D)) (by intro _ _ _; rfl) hi hg ht
    (by_in (mk := fun env D => mkIn (.SetComp elt [⟨tg, iter, ifs, 0⟩, ⟨tg1, iter1, ifs1, 0⟩, ⟨tg2, iter2, ifs2, 0⟩] scope pos) 2 iter2 env (.ref D)) cf_set hsub rfl rfl (by intro _ _ _; rfl) hi1 hg1 ht1
      (by_in (mk := fun env D => mkS elt env D) cf_set hsub2 rfl rfl (by intro _ _ _; rfl) hi2 hg2 ht2 (by_set he) hs2) hs1) hs
end
def bdB (B : Int) (k : List Int) : Bool := k.all fun m => decide (0 ≤ m) && decide (m < B)
theorem bdB_run {B : Int} {k : List Int} (h : bdB B k = true) : TS.Bd B k := fun m hm => by
  have z := List.all_eq_true.mp h m hm
  simp only [Bool.and_eq_true, decide_eq_true_eq] at z
  exact z
theorem code_eq {B : Int} : ∀ {a b : List Int}, TS.Bd B a → TS.Bd B b → a.length = b.length → TS.code B a = TS.code B b → a = b
  | [], [], _, _, _, _ => rfl
  | [], _ :: _, _, _, h, _ => by simp at h
  | _ :: _, [], _, _, h, _ => by simp at h
  | x :: a, y :: b, ha, hb, h, e => by
    have hl : a.length = b.length := by simpa using h
    rcases Int.lt_trichotomy x y with z | z | z
    · have q := TS.code_lt hl ha.tail hb.tail z; omega
    · subst z
      have e2 : TS.code B a = TS.code B b := by
        have e : x * B ^ a.length + TS.code B a = x * B ^ b.length + TS.code B b := e
        rw [hl] at e
        omega
      rw [code_eq ha.tail hb.tail hl e2]
    · have q := TS.code_lt hl.symm hb.tail ha.tail z; omega
def sortS (B : Int) (l : List (List Int)) : List (List Int) := l.mergeSort fun a b => decide (TS.code B a ≤ TS.code B b)
theorem sortS_pw (B : Int) (l : List (List Int)) : (sortS B l).Pairwise fun a b => TS.code B a ≤ TS.code B b := by
  have z := List.pairwise_mergeSort (le := fun a b : List Int => decide (TS.code B a ≤ TS.code B b)) (by intro a b c h1 h2; simp at h1 h2 ⊢; omega) (by intro a b; simp; omega) l
  exact z.imp fun h => by simpa using h
def tupI (k : List Int) : DL.D := .tup (k.map .int)
def sortedS (md : Bool) (d : Nat) (B : Int) (x : DL.D) : Mo DL.D := fun M => match x with
  | .set l => cond (decide (1 ≤ d) && l.all fun k => decide (k.length = d) && bdB B k) (finD md ((sortS B l).map tupI) M) none
  | _ => none
def rSortedT' (K : KP) : List V → Hp → VK → Prop := fun vs H Q => ∃ (a : Addr) (o : Obj) (L : List (Addr × List Int)) (d : Nat) (B : Int), vs = [V.ref a] ∧ H a = some (.frz o (SetTO K.P K.w a L)) ∧ (∀ p ∈ L, SqT K.K H p.1 (p.2.map V.int)) ∧ 1 ≤ d ∧ (∀ p ∈ L, p.2.length = d ∧ TS.Bd B p.2) ∧
  ∀ (L' : List (Addr × List Int)) (p : Addr), L'.Perm L → L'.Pairwise (fun q r => TS.code B q.2 ≤ TS.code B r.2) → H p = none → Q (.ref p) (upd H p (.lst (L'.map fun q => V.ref q.1)))
theorem call_sortedT {X : Cx} (hc : X.calm = true) : CallR X (.builtin "sorted") (rSortedT' (XK X)) := by
  intro pins s σ H vs us Q I r h
  obtain ⟨a, ob, L, d, B, rfl, ha, hk, hd, hB, q⟩ := h
  have R0 : SetT0 X.prog X.w s.heap a L := (I.hok a _ ha).2.1
  obtain ⟨es, ep, t, R⟩ := R0.full fun p hp => I.isT (hk p hp)
  rw [Vals.ref1 r]
  refine sorted_setT R (I.ok.hd hc) hd hB fun s' p out c L' k g o hp hg hout pm pw => ?_
  have hfew : L'.length < 64 := by rw [pm.length_eq]; exact R.few
  have hlen : (L'.map fun q => V.ref q.1).length ≤ sizeLine := by rw [List.length_map, sizeLine_eq]; omega
  have hn : H p = none := I.hok.fresh hp
  have hv : Vals (L'.map fun q => V.ref q.1) out.toList := by rw [hout]; exact vals_of_refs L'
  have J : Inv X pins σ (upd H p (.lst (L'.map fun q => V.ref q.1))) { s with heap := s'.heap, gens := s'.gens, drawn := s'.drawn, toks := s'.toks } :=
    I.call (ch := []) (Un.laid k hp hn) (I.hok.laid k hp ⟨hlen, out.toList, c, hv, hg⟩) (by rw [g]; exact I.bare) (fun _ z => nomatch z)
  have e : s' = { s with heap := s'.heap, gens := s'.gens, drawn := s'.drawn, toks := s'.toks } := by
    cases s'
    cases s
    cases o
    rfl
  rw [e]
  exact ⟨.ref p, _, J, rfl, q L' p pm pw hn⟩
theorem rpa_ints {K : KP} {W : Wd} : ∀ ks : List Int, RpA K W (ks.map V.int) (ks.map .int)
  | [] => .nil
  | k :: ks => .cons (.int k) (rpa_ints ks)
theorem rpa_tupI {K : KP} {W : Wd} : ∀ {L : List (Addr × List Int)}, (∀ p ∈ L, SqT K.K W.H p.1 (p.2.map V.int)) → RpA K W (L.map fun q => V.ref q.1) ((L.map (·.2)).map tupI)
  | [], _ => .nil
  | p :: L, h => .cons (.tup (h p List.mem_cons_self) (rpa_ints p.2)) (rpa_tupI fun q hq => h q (List.mem_cons_of_mem _ hq))
theorem cx_sortedS {S : SC} (md : Bool) (d : Nat) (B : Int) : CXx S (.builtin "sorted") (arg1 (sortedS md d B)) := by
  refine ⟨rSortedT' S.K, fun X c => by have z := call_sortedT c.calm; unfold XK at z; rw [c.P, c.w, c.K] at z; exact z, fun W σ xs as Q k r h => ?_⟩
  obtain ⟨v, x, rfl, rv, h⟩ := arg1_run r h
  unfold sortedS at h
  cases rv with
  | @set a l hs =>
    obtain ⟨o, L, e, ht, pm⟩ := hs
    obtain ⟨hc, h⟩ := post_condO h
    simp only [Bool.and_eq_true, decide_eq_true_eq] at hc
    have hB : ∀ p ∈ L, p.2.length = d ∧ TS.Bd B p.2 := fun p hp => by
      have z := List.all_eq_true.mp hc.2 p.2 (pm.mem_iff.mp (List.mem_map_of_mem hp))
      simp only [Bool.and_eq_true, decide_eq_true_eq] at z
      exact ⟨z.1, bdB_run z.2⟩
    refine ⟨a, o, L, d, B, rfl, e, ht, hc.1, hB, fun L' p pm' pw hp => ?_⟩
    have eq : L'.map (·.2) = sortS B l := by
      refine List.Perm.eq_of_pairwise (le := fun a b => TS.code B a ≤ TS.code B b) (fun x y hx hy h1 h2 => ?_) (List.pairwise_map.mpr pw) (sortS_pw B l) ((pm'.map (·.2)).trans (pm.trans (List.mergeSort_perm l _).symm))
      obtain ⟨p1, hp1, rfl⟩ := List.mem_map.mp hx
      obtain ⟨p2, hp2, rfl⟩ := List.mem_map.mp (pm.mem_iff.mpr ((List.mergeSort_perm l _).mem_iff.mp hy))
      have b1 := hB p1 (pm'.mem_iff.mp hp1)
      have b2 := hB p2 hp2
      exact code_eq b1.2 b2.2 (b1.1.trans b2.1.symm) (by omega)
    have rr : RpA S.K W (L'.map fun q => V.ref q.1) ((sortS B l).map tupI) := by
      rw [← eq]
      exact rpa_tupI fun p hp => ht p (pm'.mem_iff.mp hp)
    exact post_new k rr h p hp
  | _ => exact (show False from h).elim
end DL
namespace DL
open PySem PySem.Spec PyProof.Rows L2
def tLkd (t : TE) : TE := fun σ H Q => t σ H fun v H1 => Q v H1 ∨ ∃ a u, v = .ref a ∧ H1 a = some u ∧ Mut (some u) ∧ ∀ o, Q v (upd H1 a (.frz o u))
theorem pe_lkd {X : Cx} {e : Expr} {t : TE} (h : PE X e t) : PE X e (tLkd t) := ⟨fun pins s σ H Q I q => thn (h.run pins s σ H _ I q) fun u s1 ⟨v, H1, I1, r1, q1⟩ => by
  rcases q1 with q1 | ⟨a, w, rfl, e1, mu, q1⟩
  · exact ⟨v, _, I1, r1, q1⟩
  · obtain ⟨o, I2⟩ := I1.lock e1 mu
    exact ⟨_, _, I2, r1, q1 o⟩⟩
section
variable {S : SC}
theorem itok_dV {W : Wd} {a : Addr} {o : Obj} {kvs : List (Key × V)} {l : List (DL.D × DL.D)} (h : W.H a = some (.frz o (.dK kvs))) (r : RpK S.K W kvs l) (z : SzH S.K W.H) : ItOk S W (L2.Itd a o kvs) ⟨l.map (·.2), none⟩ := by
  have hl := rpk_len r
  refine ⟨by show (l.map (·.2)).length ≤ _; rw [List.length_map, ← hl]; exact z.k a kvs (.inr ⟨o, h⟩), fun W1 l1 k1 _ => ⟨fun i hi => ⟨⟨l1.z _ _ _ h, by simpa [hl] using hi⟩, fun x H' hy => ?_⟩, l1.z _ _ _ h, by simp [hl]⟩⟩
  obtain ⟨rfl, k, hkv⟩ := hy
  obtain ⟨d, hd, rd⟩ := rpk_get r hkv
  exact ⟨W1, Le.refl _ _, k1, rfl, rfl, d, by rw [List.getElem?_map, hd]; rfl, rd.mono0 l1.zero⟩
theorem itok_dI {W : Wd} {a : Addr} {o : Obj} {kvs : List (Key × V)} {l : List (DL.D × DL.D)} (h : W.H a = some (.frz o (.dK kvs))) (r : RpK S.K W kvs l) (z : SzH S.K W.H) : ItOk S W (L2.Iti a o kvs) ⟨l.map fun p => .tup [p.1, p.2], none⟩ := by
  have hl := rpk_len r
  refine ⟨by show (l.map _).length ≤ _; rw [List.length_map, ← hl]; exact z.k a kvs (.inr ⟨o, h⟩), fun W1 l1 k1 _ => ⟨fun i hi => ⟨⟨l1.z _ _ _ h, by simpa [hl] using hi⟩, fun x H' hy => ?_⟩, l1.z _ _ _ h, by simp [hl]⟩⟩
  obtain ⟨T, k, v, hkv, rfl, hT, rfl⟩ := hy
  obtain ⟨d, hd, rd⟩ := rpk_get r hkv
  have l2 := le_lay (o := .tup [kV k, v]) k1 hT
  exact ⟨W1.lay T (.tup [kV k, v]), l2, k1.lay hT, rfl, rfl, .tup [kD k, d], by rw [List.getElem?_map, hd]; rfl, .tup (.inl (.inl upd_same)) (.cons (rp_kD k) (.one ((rd.mono0 l1.zero).mono l2)))⟩
/-- the entries of a dict that changes no more -/
def itE (f : DL.D × DL.D → DL.D) (d : DL.D) : Mo Itd' := fun M => match d with
  | .dct false l => some (.ok ⟨l.map f, none⟩, M)
  | .ref n => match M[n]? with
    | some (.dct false l) => some (.ok ⟨l.map f, none⟩, M.set n .dead)
    | _ => none
  | _ => none
theorem itE_sem {te : TE} {f : En → Mo DL.D} {g : DL.D × DL.D → DL.D} {J : Addr → Obj → List (Key × V) → It} (e2 : SemE S te f)
    (hJ : ∀ {W : Wd} {a : Addr} {o : Obj} {kvs : List (Key × V)} {l : List (DL.D × DL.D)}, W.H a = some (.frz o (.dK kvs)) → RpK S.K W kvs l → SzH S.K W.H → ItOk S W (J a o kvs) ⟨l.map g, none⟩) :
    SemI0 S (fun σ H R => tLkd te σ H fun x H1 => ∃ d o kvs, x = .ref d ∧ H1 d = some (.frz o (.dK kvs)) ∧ R (J d o kvs) H1) (fun ρ => .bnd (f ρ) (itE g)) := fun W σ ρ R k st h => by
  refine e2 W σ ρ _ k st (Post.imp (Post.bnd h) fun d W1 l1 k1 q v rv => ?_)
  unfold itE at q
  cases rv with
  | dK hs fz r =>
    rcases hs with hs | ⟨o, hs⟩
    · refine .inr ⟨_, _, rfl, hs, True.intro, fun o => ?_⟩
      have le := le_lock (o := o) k1 (u := .dK _) rfl hs fz
      exact ⟨_, o, _, rfl, upd_same, q (W1.lock _ o (.dK _)) le (k1.lock rfl hs fz) rfl _ fun z => hJ upd_same (r.mono le) z⟩
    · exact .inl ⟨_, o, _, rfl, hs, Post.ret k1 q _ fun z => hJ hs r z⟩
  | @ref n a hb =>
    simp only at q
    split at q
    · rename_i l hm
      obtain ⟨kvs, h0, r0⟩ := k1.ob _ _ _ hb hm
      refine .inr ⟨_, _, rfl, h0, True.intro, fun o => ?_⟩
      have le := le_put (K := S.K) (ho := .frz o (.dK kvs)) (o := .dead) k1 hb hm (by intro z; cases z)
      have kp := k1.put (ho := .frz o (.dK kvs)) (o := .dead) hb hm (by intro z; cases z) ⟨_, upd_same, by intro x z; cases z⟩
      exact ⟨a, o, kvs, rfl, upd_same, q (W1.put n a (.frz o (.dK kvs)) .dead) le kp rfl _ fun z => hJ upd_same (r0.mono le) z⟩
    · exact q.elim
  | dT hs fz qs r => exact (show False from q).elim
  | _ => exact (show False from q).elim
theorem ix_vals {tg e : Expr} {apos cpos : Pos} {f : En → Mo DL.D} (he : EX S e f) (hbase : ∀ env : PySem.Env, attributeBase e "values" env (eval e env) = eval e env := by intro; rfl) (hline : (apos.endLine == cpos.line) = true := by rfl) :
    IX S tg (.Call (.Attribute e "values" apos) [] [] cpos) (fun ρ => .bnd (f ρ) (itE (·.2))) := by
  obtain ⟨te, e1, e2⟩ := he.ex
  exact ix_mk (wi := iVals (tLkd te)) (fun X c => pi_values (pe_lkd (e1 X c)) (hbase X.env) hline) (itE_sem e2 fun h r z => itok_dV h r z)
theorem ix_items {elts : List Expr} {kk : Nat} {tpos : Pos} {e : Expr} {apos cpos : Pos} {f : En → Mo DL.D} (he : EX S e f) (hbase : ∀ env : PySem.Env, attributeBase e "items" env (eval e env) = eval e env := by intro; rfl) (hline : (apos.endLine == cpos.line) = true := by rfl) :
    IX S (.Tuple elts kk tpos) (.Call (.Attribute e "items" apos) [] [] cpos) (fun ρ => .bnd (f ρ) (itE fun p => .tup [p.1, p.2])) := by
  obtain ⟨te, e1, e2⟩ := he.ex
  exact ix_mk (wi := iItems (tLkd te)) (fun X c => pi_items (pe_lkd (e1 X c)) (hbase X.env) hline) (itE_sem e2 fun h r z => itok_dI h r z)
end
end DL
namespace DL
open PySem PySem.Spec PyProof.Rows L2
section
variable {S : SC}
theorem sws_sc {X : Cx} (c : InC S X) (tg : List Expr) (v : Expr) : swappedStores tg v X.env = swappedStores tg v { scope := S.sc, locals := 0, globals := 0, cells := [] } := by
  have e : swappedStores tg v X.env = swappedStores tg v { scope := X.env.scope, locals := 0, globals := 0, cells := [] } := rfl
  rw [e, c.sc]
def blkB (N : List Str) (sc scope : Scope) (own : List (Str × Nat)) : Bool := scope.kind == .function && (scope.names.all fun y => scope.names.lookup y.1 == some y.2) && (own.all fun p => N[p.2]? == some p.1) &&
  (scope.names.all fun y => !(y.2 == .free) || (sc.names.lookup y.1 == some .cell) || (sc.names.lookup y.1 == some .free)) && scope.names.all fun y => !(y.2 == .local || y.2 == .cell) || (own.map (·.1)).contains y.1 || !N.contains y.1
theorem blk_ok {N : List Str} {sc scope : Scope} {own : List (Str × Nat)} (h : blkB N sc scope own = true) : BlkOk N sc scope own := by
  unfold blkB at h
  simp only [Bool.and_eq_true] at h
  obtain ⟨⟨⟨⟨h1, h2⟩, h3⟩, h4⟩, h5⟩ := h
  refine ⟨by simpa using h1, fun y hy => by simpa using List.all_eq_true.mp h2 y hy, fun p hp => by simpa using List.all_eq_true.mp h3 p hp, fun y hy e => ?_, fun y hy e => ?_⟩
  · have z := List.all_eq_true.mp h4 y hy
    rw [e] at z
    simpa using z
  · have z := List.all_eq_true.mp h5 y hy
    rcases e with e | e
    all_goals
      rw [e] at z
      simp at z
      rcases z with z | z
      · left
        simpa using z
      · right
        simpa using z
theorem nd_of {N : List Str} (h : (decide N.Nodup) = true) : N.Nodup := of_decide_eq_true h
def stL (l : List DL.D) (y : DL.D) : Option (List DL.D) := if l.length < sizeLine then some (l ++ [y]) else none
def stD (t : Bool) (l : List (DL.D × DL.D)) (y : DL.D × DL.D) : Option (List (DL.D × DL.D)) := if l.length < sizeLine then putB t l y.1 y.2 else none
theorem par_ok {P : List Str} {sc : Scope} (h : (P.all fun x => sc.names.lookup x == some .local || sc.names.lookup x == some .cell) = true) : ∀ x ∈ P, sc.names.lookup x = some .local ∨ sc.names.lookup x = some .cell := fun x hx => by simpa using List.all_eq_true.mp h x hx
theorem nofree_ok {sc : Scope} (h : (sc.names.all fun y => !(y.2 == .free)) = true) : ∀ y ∈ sc.names, y.2 ≠ .free := fun y hy => by simpa using List.all_eq_true.mp h y hy
theorem fnd_stuck {T : TP} {k : Nat} {f : Addr} {fd : FuncData} {ps : List Str} : FnD T k f fd ps (fun _ => .stuck) :=
  ⟨fun vs H Q E h => h.1, fun A outer s H args us vs Q E hr he hb hv hs => let ⟨_, _, _, _, _, _, post⟩ := hs; (show False from post).elim⟩
theorem sw_s {X : Cx} {elt : Expr} {gs : List Comprehension} {scope : Scope} {pos py : Pos} {y : Str} {l : Nat} (c : InC S X) (hk : S.sc.kind = .function) (hy : S.sc.names.lookup y = some .local) (h : swB S scope y py.line pos.line = true) : swapsWith (.SetComp elt gs scope pos) (some (.Name y py)) l X.env = pure true :=
  sw_lc (elt := elt) (gs := gs) (l := l) c hk hy h
theorem sw_sF {X : Cx} {elt : Expr} {gs : List Comprehension} {scope : Scope} {pos py : Pos} {y : Str} {l : Nat} (c : InC S X) (h : swB S scope y py.line pos.line = false) : swapsWith (.SetComp elt gs scope pos) (some (.Name y py)) l X.env = pure false :=
  sw_lcF (elt := elt) (gs := gs) (l := l) c h
theorem sw_sC {X : Cx} {elt : Expr} {gs : List Comprehension} {scope : Scope} {pos py : Pos} {y : Str} {l : Nat} (c : InC S X) (h : S.sc.names.lookup y = some .cell) : swapsWith (.SetComp elt gs scope pos) (some (.Name y py)) l X.env = pure false :=
  sw_lcC (elt := elt) (gs := gs) (l := l) c h
theorem ln0 : ∀ (M : Mem) (ds : List DL.D) (M' : Mem), (Mo.ret ([] : List DL.D)) M = some (.ok ds, M') → ds.length = 0 := fun M ds M' h => by cases h; rfl
def par3 (i j l : Nat) (ρ : En) : List DL.D → Mem → Option (Fl × Mem)
  | [a, b, c], M => some (.nx (((ρ.set i (some a)).set j (some b)).set l (some c)), M)
  | _, _ => none
end
end DL
namespace DL
open PySem PySem.Spec PyProof.Rows L2
theorem rpa_ints' {K : KP} {W : Wd} : ∀ ns : List Int, RpA K W (ns.map V.int) (ns.map .int)
  | [] => .nil
  | n :: ns => .cons (.int n) (rpa_ints' ns)
theorem lawAt_of {l : PySem.W.OpenLaw} {w : World} {K : PySem.W.Frag} {mg : Str → Option Value} {f : Addr} {h : Heap} {n k : Nat} {x : Str} {tf : List He.Defn} {F : List D → Mo D} {fd : FuncData} (KX : K.In h)
    (hd : ∀ p ∈ tf, PySem.W.codeHdIn K (He.cT K p).1 (He.cT K p).2 = true) (out : ∀ p ∈ tf, K.lookup (He.cT K p).2 = none) (empty : ∀ p ∈ tf, h.get? (He.cT K p).2 = some { cls := .none, data := .fields #[] })
    (hb : ∀ (s : Shared) (u : Value), BindsTo s fd ⟨[u], []⟩ [(x, u)])
    (hF : ∀ base : Heap, K.In base → base.Ns mainGlobals mg → (∀ p ∈ tf.map (He.cT K), GxR.TabB base mg p.1 p.2) → FnD ⟨l.prog, w, K, mg, base, tf.map (He.cT K)⟩ k f fd [x] F)
    (law : ∀ ns : List Int, ns.length ≤ n → (∀ z ∈ ns, Builtin.Int.intBits z ≤ 1048576) → ∃ M', F [.lst (ns.map .int)] [] = some (.ok (.bl true), M')) : LamX.LawAtS l w K (L2N.CX l.prog w) k n x mg f h := by
  have mem : ∀ p ∈ tf.map (He.cT K), ∃ q ∈ tf, He.cT K q = p := fun p hp => by simpa using hp
  refine ⟨fd, tf.map (He.cT K), SpF ⟨l.prog, w, K, mg, h, tf.map (He.cT K)⟩ 1 F, fun p hp => ?_, fun p hp => ?_, fun p hp => ?_, hb, fun H a ns hl hbits hH hS => ?_, fun base B N TB => hF base B N fun p hp => ⟨(TB p hp).code, (TB p hp).bm, (TB p hp).gP⟩⟩
  · obtain ⟨q, hq, rfl⟩ := mem p hp; exact empty q hq
  · obtain ⟨q, hq, rfl⟩ := mem p hp; exact out q hq
  · obtain ⟨q, hq, rfl⟩ := mem p hp; exact PySem.W.codeHd_of_K KX (hd q hq)
  · obtain ⟨M', e⟩ := law ns hl hbits
    have fz : Wd.frz ⟨[], [], H, []⟩ a := ⟨fun n h => by simp at h, by simp⟩
    refine ⟨rfl, ⟨[], [], H, []⟩, [.lst (ns.map .int)], ⟨rfl, List.nodup_nil, (fun n a o h => by simp at h), (fun a h => by cases h), (fun a h => by cases h), fun a h => ⟨?_, by simp, by simp⟩⟩, rfl, .one ?_, ?_⟩
    · obtain ⟨p, hp, rfl⟩ := List.mem_map.mp h
      exact ⟨#[], hH p hp, True.intro⟩
    · rcases hS with hS | hS
      · exact .lst hS fz (rpa_ints' ns)
      · exact .lstK hS (rpa_ints' ns)
    · show PostC _ _ (F [.lst (ns.map .int)] []) _ _
      rw [e]
      intro W' l' k' m' v rv
      exact rp_bl rv
theorem cx_end {P : Program} {w : World} {H : Hp} {s : Shared} {e : Value} {s' : Shared} (h : L2N.CX P w [] H s (fun _ _ _ => False) e s') : False := by
  unfold L2N.CX at h
  obtain ⟨_, _, _, _, _, _, _, _, _, _, _, _, q⟩ := h
  exact q
theorem code_of {K : PySem.W.Frag} {x qual : Str} {prm : Arguments} {body : List Stmt} {scope : Scope} {dvs : List V} {kws : List (Str × V)} {p : He.Defn} {fd : FuncData} (F : FunD K x qual prm body scope dvs kws (He.fAd K p) fd) : fd.code = .ref (He.cT K p).1 := by
  obtain ⟨oc, od, dV, kV, doc, pm, an, cdv, ct, osl, rfl, lk, hcd, _, _⟩ := F.ex
  obtain ⟨c, rfl⟩ := He.codeIn_ref hcd
  have e := He.codeOf_eq lk (c := c) rfl
  show Value.ref c = .ref (He.codeOf K p)
  rw [e]
def fdOf (K : PySem.W.Frag) (x : Str) : Option FuncData := match K.lookup (He.ga K x) with
  | some ⟨_, _, .func fd, _⟩ => some fd
  | _ => none
noncomputable def fdAt (K : PySem.W.Frag) (F : FuncData) (x : Str) : FuncData := (fdOf K x).getD F
theorem fd_at {K : PySem.W.Frag} {fa : List He.Fa} {fn : List He.DefD} (c : He.SaysD fa fn K) (F : FuncData) (i : Nat) {d : He.DefD} {x : Str} (h : fn[i]? = some d) (e : d.at_ = (x, none)) : FunD K d.name d.qual d.params d.body d.scope (d.dvs K) (d.kws K) (He.ga K x) (fdAt K F x) := by
  obtain ⟨fd, D⟩ := c.def_ i h
  rw [e] at D
  have q : fdAt K F x = fd := by
    obtain ⟨oc, od, dV, kV, doc, pm, an, cdv, ct, osl, rfl, lk, hcd, _, _⟩ := D.ex
    have lk : K.lookup (He.ga K x) = some _ := lk
    unfold fdAt fdOf
    rw [lk]
    rfl
  rw [q]
  exact D
end DL
namespace DL
open PySem PySem.Spec PyProof.Rows L2
theorem finM_same (M0 M : Mem) (h : M.take M0.length = M0) : finM M0 M = some M0 := if_pos h
theorem finM_id (M : Mem) : finM M M = some M := finM_same M M (by simp)
theorem fin_ok {M0 M : Mem} {d : D} (hd : noref d = true) (h : M.take M0.length = M0) : fin M0 M d = some (.ok d, M0) := by
  unfold fin
  rw [subst_noref hd, finM_same _ _ h]
theorem fnR_ret {M0 M : Mem} {d : D} (hd : noref d = true) (h : M.take M0.length = M0) : fnR M0 (some (.ret d, M)) = some (.ok d, M0) := fin_ok hd h
/-- objects without references -/
def norefO : O → Bool
  | .lst l => norefL l
  | .dct _ l => norefK l
  | .ins _ fs => norefL (fs.map (·.2))
  | .dead => true
theorem frO_noref {f : Nat → Option D} : ∀ {o : O}, norefO o = true → frO f o = some o
  | .lst l, h => by rw [frO, substL_noref h]; rfl
  | .dct t l, h => by rw [frO, substK_noref h]; rfl
  | .ins C fs, h => by rw [frO, substL_noref h]; exact congrArg (fun z => some (O.ins C z)) (zip_self fs)
  | .dead, _ => rfl
theorem mapM_id {α : Type} {f : α → Option α} : ∀ {l : List α}, (∀ a ∈ l, f a = some a) → l.mapM f = some l
  | [], _ => rfl
  | a :: l, h => by
    rw [List.mapM_cons, h a List.mem_cons_self, mapM_id fun b hb => h b (List.mem_cons_of_mem _ hb)]
    rfl
theorem finM_noref {M0 M : Mem} (h : ∀ o ∈ M.take M0.length, norefO o = true) : finM M0 M = some (M.take M0.length) := by
  unfold finM
  by_cases e : M.take M0.length = M0
  · rw [if_pos e, e]
  · rw [if_neg e]
    exact mapM_id fun o ho => frO_noref (h o ho)
theorem fnR_noref {M0 M : Mem} {d : D} (hd : noref d = true) (h : ∀ o ∈ M.take M0.length, norefO o = true) : fnR M0 (some (.ret d, M)) = some (.ok d, M.take M0.length) := by
  show fin M0 M d = _
  unfold fin
  rw [subst_noref hd, finM_noref h]
/-- m runs from M and leaves what Q says -/
def Rn {α : Type} (m : Mo α) (M : Mem) (Q : α → Mem → Prop) : Prop := ∃ a M', m M = some (.ok a, M') ∧ Q a M'
theorem Rn.ret {α : Type} {a : α} {M : Mem} {Q : α → Mem → Prop} (h : Q a M) : Rn (.ret a) M Q := ⟨a, M, rfl, h⟩
theorem Rn.bnd {α β : Type} {m : Mo α} {f : α → Mo β} {M : Mem} {Q : β → Mem → Prop} (h : Rn m M fun a M1 => Rn (f a) M1 Q) : Rn (.bnd m f) M Q := by
  obtain ⟨a, M1, e, b, M2, e2, q⟩ := h
  exact ⟨b, M2, by rw [bnd_of e]; exact e2, q⟩
theorem Rn.imp {α : Type} {m : Mo α} {M : Mem} {Q Q' : α → Mem → Prop} (h : Rn m M Q) (i : ∀ a M', Q a M' → Q' a M') : Rn m M Q' := let ⟨a, M', e, q⟩ := h; ⟨a, M', e, i _ _ q⟩
theorem Rn.of {α : Type} {m : Mo α} {M M' : Mem} {a : α} {Q : α → Mem → Prop} (e : m M = some (.ok a, M')) (q : Q a M') : Rn m M Q := ⟨a, M', e, q⟩
/-- a statement runs -/
def Rs' (g : Sn) (ρ : En) (M : Mem) (Q : Fl → Mem → Prop) : Prop := ∃ f M', g ρ M = some (f, M') ∧ Q f M'
theorem Rs'.sE {α : Type} {m : Mo α} {ρ ρ' : En} {f : α → Mem → Option (Fl × Mem)} {M : Mem} {Q : Fl → Mem → Prop} (h : Rn m M fun a M1 => ∃ fl M', f a M1 = some (fl, M') ∧ Q fl M') : ∃ fl M', sE m ρ f M = some (fl, M') ∧ Q fl M' := by
  obtain ⟨a, M1, e, fl, M', e2, q⟩ := h
  refine ⟨fl, M', ?_, q⟩
  unfold DL.sE
  rw [e]
  exact e2
theorem Rs'.seq {g1 g2 : Sn} {ρ : En} {M : Mem} {Q : Fl → Mem → Prop} (h : Rs' g1 ρ M fun fl M1 => match fl with | .nx ρ1 => Rs' g2 ρ1 M1 Q | fl => Q fl M1) : Rs' (sSeq g1 g2) ρ M Q := by
  obtain ⟨fl, M1, e, q⟩ := h
  unfold Rs' sSeq
  rw [e]
  cases fl with
  | nx ρ1 => exact q
  | _ => exact ⟨_, _, rfl, q⟩
end DL
namespace DL
open PySem
mutual
/-- ints, texts, None, tuples and lists of such -/
def pl : D → Bool
  | .non => true
  | .int _ => true
  | .str x => (PyData.str x).canLay0
  | .tup l => plL l
  | .lst l => plL l
  | _ => false
def plL : List D → Bool
  | [] => true
  | d :: r => pl d && plL r
end
mutual
/-- how deep -/
def dpt : D → Nat
  | .tup l => dptL l + 1
  | .lst l => dptL l + 1
  | _ => 0
def dptL : List D → Nat
  | [] => 0
  | d :: r => max (dpt d) (dptL r)
end
theorem plL_all : ∀ {l : List D}, plL l = true ↔ ∀ d ∈ l, pl d = true
  | [] => by simp [plL]
  | d :: r => by simp [plL, plL_all (l := r)]
mutual
theorem py_pl : ∀ {d : D}, pl d = true → py d = some (enc d)
  | .non, _ => rfl
  | .int i, _ => rfl
  | .str x, _ => rfl
  | .tup l, h => by
    have e := pyL_pl (l := l) h
    unfold enc
    rw [py, e]; rfl
  | .lst l, h => by
    have e := pyL_pl (l := l) h
    unfold enc
    rw [py, e]; rfl
  | .bl _, h => by cases h
  | .dct _ _, h => by cases h
  | .ref _, h => by cases h
  | .obj _, h => by cases h
  | .ty _, h => by cases h
  | .set _, h => by cases h
  | .seti _, h => by cases h
theorem pyL_pl : ∀ {l : List D}, plL l = true → pyL l = some (l.map enc)
  | [], _ => rfl
  | d :: r, h => by
    simp only [plL, Bool.and_eq_true] at h
    rw [pyL, py_pl h.1, pyL_pl h.2]
    rfl
end
theorem enc_tup {l : List D} (h : plL l = true) : enc (.tup l) = .tuple (l.map enc) := by
  unfold enc; rw [py, pyL_pl h]; rfl
theorem enc_lst {l : List D} (h : plL l = true) : enc (.lst l) = .list (l.map enc) := by
  unfold enc; rw [py, pyL_pl h]; rfl
mutual
theorem eqv_pl : ∀ {a b : D}, pl a = true → pl b = true → (PyData.eqv (enc a) (enc b) = true ↔ a = b)
  | .non, b, _, hb => by
    cases b <;> first
      | (cases hb; done)
      | (simp [enc, py, PyData.eqv]; done)
      | (rw [show enc (.tup _) = _ from enc_tup hb]; simp [enc, py, PyData.eqv]; done)
      | (rw [show enc (.lst _) = _ from enc_lst hb]; simp [enc, py, PyData.eqv]; done)
  | .int i, b, _, hb => by
    cases b <;> first
      | (cases hb; done)
      | (simp [enc, py, PyData.eqv]; done)
      | (rw [show enc (.tup _) = _ from enc_tup hb]; simp [enc, py, PyData.eqv]; done)
      | (rw [show enc (.lst _) = _ from enc_lst hb]; simp [enc, py, PyData.eqv]; done)
  | .str x, b, _, hb => by
    cases b <;> first
      | (cases hb; done)
      | (simp [enc, py, PyData.eqv]; done)
      | (rw [show enc (.tup _) = _ from enc_tup hb]; simp [enc, py, PyData.eqv]; done)
      | (rw [show enc (.lst _) = _ from enc_lst hb]; simp [enc, py, PyData.eqv]; done)
  | .tup l, b, ha, hb => by
    have ih := fun (m : List D) (hm : plL m = true) => eqvL_pl (a := l) (b := m) ha hm
    rw [enc_tup ha]
    cases b with
    | tup m => rw [enc_tup hb, PyData.eqv, ih m hb]; simp
    | lst m => rw [enc_lst hb]; simp [PyData.eqv]
    | non => simp [enc, py, PyData.eqv]
    | int i => simp [enc, py, PyData.eqv]
    | str x => simp [enc, py, PyData.eqv]
    | _ => cases hb
  | .lst l, b, ha, hb => by
    have ih := fun (m : List D) (hm : plL m = true) => eqvL_pl (a := l) (b := m) ha hm
    rw [enc_lst ha]
    cases b with
    | lst m => rw [enc_lst hb, PyData.eqv, ih m hb]; simp
    | tup m => rw [enc_tup hb]; simp [PyData.eqv]
    | non => simp [enc, py, PyData.eqv]
    | int i => simp [enc, py, PyData.eqv]
    | str x => simp [enc, py, PyData.eqv]
    | _ => cases hb
  | .bl _, _, h, _ => by cases h
  | .dct _ _, _, h, _ => by cases h
  | .ref _, _, h, _ => by cases h
  | .obj _, _, h, _ => by cases h
  | .ty _, _, h, _ => by cases h
  | .set _, _, h, _ => by cases h
  | .seti _, _, h, _ => by cases h
theorem eqvL_pl : ∀ {a b : List D}, plL a = true → plL b = true → (PyData.eqvAll (a.map enc) (b.map enc) = true ↔ a = b)
  | [], [], _, _ => by simp [PyData.eqvAll]
  | [], _ :: _, _, _ => by simp [PyData.eqvAll]
  | _ :: _, [], _, _ => by simp [PyData.eqvAll]
  | x :: a, y :: b, ha, hb => by
    simp only [plL, Bool.and_eq_true] at ha hb
    rw [List.map_cons, List.map_cons, PyData.eqvAll, Bool.and_eq_true, eqv_pl ha.1 hb.1, eqvL_pl ha.2 hb.2, List.cons.injEq]
end
mutual
theorem lay_pl : ∀ {d : D}, pl d = true → (enc d).canLay0 = true ∧ (enc d).depth = dpt d
  | .non, _ => ⟨rfl, rfl⟩
  | .int i, _ => ⟨rfl, rfl⟩
  | .str x, h => ⟨h, rfl⟩
  | .tup l, h => by
    obtain ⟨h1, h2⟩ := layL_pl (l := l) h
    rw [enc_tup h]
    exact ⟨h1, by rw [PyData.depth, h2, dpt]⟩
  | .lst l, h => by
    obtain ⟨h1, h2⟩ := layL_pl (l := l) h
    rw [enc_lst h]
    exact ⟨h1, by rw [PyData.depth, h2, dpt]⟩
  | .bl _, h => by cases h
  | .dct _ _, h => by cases h
  | .ref _, h => by cases h
  | .obj _, h => by cases h
  | .ty _, h => by cases h
  | .set _, h => by cases h
  | .seti _, h => by cases h
theorem layL_pl : ∀ {l : List D}, plL l = true → PyData.canLayAll0 (l.map enc) = true ∧ PyData.depthAll (l.map enc) = dptL l
  | [], _ => ⟨rfl, rfl⟩
  | d :: r, h => by
    simp only [plL, Bool.and_eq_true] at h
    obtain ⟨a1, a2⟩ := lay_pl h.1
    obtain ⟨b1, b2⟩ := layL_pl h.2
    rw [List.map_cons, PyData.canLayAll0, a1, b1, PyData.depthAll, a2, b2, dptL]
    exact ⟨rfl, rfl⟩
end
def okD (d : D) : Prop := pl d = true ∧ dpt d ≤ 64
theorem okD.shaped {d : D} (h : okD d) : SeqAt.shaped (enc d) = true := by
  obtain ⟨h1, h2⟩ := lay_pl h.1
  unfold SeqAt.shaped
  rw [h1, h2, decide_eq_true h.2]; rfl
theorem res_pl {M : Mem} : ∀ {d : D}, pl d = true → res M d = d
  | .ref _, h => by cases h
  | .non, _ | .int _, _ | .str _, _ | .tup _, _ | .lst _, _ => rfl
  | .bl _, h => by cases h
  | .dct _ _, h => by cases h
  | .obj _, h => by cases h
  | .ty _, h => by cases h
  | .set _, h => by cases h
  | .seti _, h => by cases h
open Classical in
theorem eqB_pl {M : Mem} {a b : D} (ha : okD a) (hb : okD b) : eqB M a b = some (decide (a = b)) := by
  unfold eqB
  rw [res_pl ha.1, res_pl hb.1, py_pl ha.1, py_pl hb.1]
  simp only [ha.shaped, hb.shaped, and_self, if_true]
  congr 1
  rw [Bool.eq_iff_iff, eqv_pl ha.1 hb.1, decide_eq_true_iff]
open Classical in
theorem eqD_pl {a b : D} (ha : okD a) (hb : okD b) : eqD a b = .ret (.bl (decide (a = b))) := by
  funext M; unfold eqD; rw [eqB_pl ha hb]; rfl
open Classical in
theorem neD_pl {a b : D} (ha : okD a) (hb : okD b) : neD a b = .ret (.bl (!decide (a = b))) := by
  funext M; unfold neD; rw [eqB_pl ha hb]; rfl
theorem any_eqv {x : D} (hx : pl x = true) : ∀ {l : List D}, plL l = true → (((l.map enc).any fun z => PyData.eqv z (enc x)) = true ↔ x ∈ l)
  | [], _ => by simp
  | d :: r, h => by
    simp only [plL, Bool.and_eq_true] at h
    rw [List.map_cons, List.any_cons, Bool.or_eq_true, any_eqv hx h.2, eqv_pl h.1 hx, List.mem_cons]
    exact ⟨fun h => h.imp Eq.symm id, fun h => h.imp Eq.symm id⟩
open Classical in
theorem inB_pl {M : Mem} {x y : D} {l : List D} (hx : okD x) (hy : okD (.lst l)) (h : seqB M y = some l) : inB M x y = some (decide (x ∈ l)) := by
  have hl : plL l = true := hy.1
  unfold inB
  rw [h]
  simp only [res_pl hx.1, py_pl hx.1, pyL_pl hl]
  have hs : SeqAt.shaped (PyData.list (l.map enc)) = true := by rw [← enc_lst hl]; exact hy.shaped
  simp only [hx.shaped, hs, and_self, if_true]
  congr 1
  rw [Bool.eq_iff_iff, any_eqv hx.1 hl, decide_eq_true_iff]
open Classical in
theorem inAll_pl {x : D} {l : List D} (hx : okD x) (hy : okD (.lst l)) : inAll x (.lst l) = .ret (.bl (decide (x ∈ l))) ∧ inAll x (.tup l) = .ret (.bl (decide (x ∈ l))) := by
  constructor
  all_goals
    funext M
    unfold inAll inD
    rw [inB_pl hx hy (by rfl)]
    rfl
end DL
namespace DL
open PySem
theorem getV_at {ρ : En} {i : Nat} {d : D} (h : ρ[i]? = some (some d)) : getV ρ i = .ret d := getV_some h
@[simp] theorem arg1_one (g : D → Mo D) (d : D) : arg1 g [d] = g d := rfl
@[simp] theorem arg2_two (g : D → D → Mo D) (d e : D) : arg2 g [d, e] = g d e := rfl
@[simp] theorem boolD_bl (b : Bool) : boolD (.bl b) = .ret b := rfl
@[simp] theorem sE_r {α : Type} (a : α) (ρ : En) (f : α → Mem → Option (Fl × Mem)) : sE (.ret a) ρ f = f a := rfl
@[simp] theorem s0_r (ρ : En) : s0 (.ret ρ) = fun M => some (.nx ρ, M) := rfl
theorem seq_nx {g1 g2 : Sn} {ρ ρ1 : En} (h : g1 ρ = fun M => some (.nx ρ1, M)) : sSeq g1 g2 ρ = g2 ρ1 := by
  funext M; unfold sSeq; rw [h]
theorem seq_ret {g1 g2 : Sn} {ρ : En} {d : D} (h : g1 ρ = fun M => some (.ret d, M)) : sSeq g1 g2 ρ = fun M => some (.ret d, M) := by
  funext M; unfold sSeq; rw [h]
theorem seq_exc {g1 g2 : Sn} {ρ ρ1 : En} {x : Str} (h : g1 ρ = fun M => some (.exc x ρ1, M)) : sSeq g1 g2 ρ = fun M => some (.exc x ρ1, M) := by
  funext M; unfold sSeq; rw [h]
theorem if_ret {c : En → Mo Bool} {g1 g2 : Sn} {ρ : En} {b : Bool} (h : c ρ = .ret b) : sIf c g1 g2 ρ = cond b (g1 ρ) (g2 ρ) := by
  funext M; unfold sIf; rw [h]; cases b <;> rfl
theorem isi_int (i : Int) (n : String) {c : Cl} (h : clOf n = some c) : isiD (.int i) (.ty n) = .ret (.bl (decide (c = .int))) := by
  funext M; unfold isiD; simp only [h]; rfl
theorem isi_bl (b : Bool) (n : String) {c : Cl} (h : clOf n = some c) : isiD (.bl b) (.ty n) = .ret (.bl (decide (c = .bool) || decide (c = .int))) := by
  funext M; unfold isiD; simp only [h]; rfl
theorem isi_non (n : String) {c : Cl} (h : clOf n = some c) : isiD .non (.ty n) = .ret (.bl false) := by
  funext M; unfold isiD; simp only [h]; rfl
theorem isi_str (x : Str) (n : String) {c : Cl} (h : clOf n = some c) : isiD (.str x) (.ty n) = .ret (.bl (decide (c = .str))) := by
  funext M; unfold isiD; simp only [h]; rfl
theorem isi_tup (l : List D) (n : String) {c : Cl} (h : clOf n = some c) : isiD (.tup l) (.ty n) = .ret (.bl (decide (c = .tuple))) := by
  funext M; unfold isiD; simp only [h]; rfl
theorem isi_lst (l : List D) (n : String) {c : Cl} (h : clOf n = some c) : isiD (.lst l) (.ty n) = .ret (.bl (decide (c = .list))) := by
  funext M; unfold isiD; simp only [h]; rfl
theorem cl_int : clOf "int" = some .int := rfl
theorem cl_bool : clOf "bool" = some .bool := rfl
theorem cl_str : clOf "str" = some .str := rfl
theorem cl_tuple : clOf "tuple" = some .tuple := rfl
theorem cl_list : clOf "list" = some .list := rfl
@[simp] theorem add_int (i j : Int) : addD (.int i) (.int j) = .ret (.int (i + j)) := rfl
@[simp] theorem sub_int (i j : Int) : subD (.int i) (.int j) = .ret (.int (i - j)) := rfl
theorem mul_int {i j : Int} (h : mulOk i j = true) : mulD (.int i) (.int j) = .ret (.int (i * j)) := by unfold mulD; simp only [h]; rfl
theorem fdiv_int {i j : Int} (h : fdivOk j = true) : fdivD (.int i) (.int j) = .ret (.int (i.fdiv j)) := by unfold fdivD intOp; simp only [h]; rfl
theorem mod_int {i j : Int} (h : j ≠ 0) : modD (.int i) (.int j) = .ret (.int (i.fmod j)) := by unfold modD intOp; simp only [h, ne_eq, not_false_eq_true, decide_true]; rfl
@[simp] theorem neg_int (i : Int) : negD (.int i) = .ret (.int (-i)) := rfl
@[simp] theorem le_int (i j : Int) : leD (.int i) (.int j) = .ret (.bl (decide (i ≤ j))) := rfl
@[simp] theorem gt_int (i j : Int) : gtD (.int i) (.int j) = .ret (.bl (decide (j < i))) := rfl
@[simp] theorem ge_int (i j : Int) : geD (.int i) (.int j) = .ret (.bl (decide (j ≤ i))) := rfl
@[simp] theorem lt_int (i j : Int) : ltD (.int i) (.int j) = .ret (.bl (decide (i < j))) := by
  funext M; unfold ltD
  simp only [res, py]
  rw [if_pos ⟨rfl, by show 0 ≤ 64; decide⟩]; rfl
theorem beq_dc (i j : Int) : (i == j) = decide (i = j) := by rw [Bool.eq_iff_iff]; simp
@[simp] theorem eq_int (i j : Int) : eqD (.int i) (.int j) = .ret (.bl (decide (i = j))) := by
  funext M; unfold eqD eqB
  simp only [res, py]
  rw [if_pos ⟨rfl, rfl⟩]
  show some (Except.ok (D.bl (i == j)), M) = _
  rw [beq_dc]; rfl
@[simp] theorem ne_int (i j : Int) : neD (.int i) (.int j) = .ret (.bl (decide (i ≠ j))) := by
  funext M; unfold neD eqB
  simp only [res, py]
  rw [if_pos ⟨rfl, rfl⟩]
  show some (Except.ok (D.bl (!(i == j))), M) = _
  rw [beq_dc, ← decide_not]; rfl
@[simp] theorem eq_bl (i j : Bool) : eqD (.bl i) (.bl j) = .ret (.bl (i == j)) := by
  funext M; unfold eqD eqB
  simp only [res, py]
  rw [if_pos ⟨rfl, rfl⟩]; rfl
@[simp] theorem is_bl (i j : Bool) : isD (.bl i) (.bl j) = .ret (.bl (decide (i = j))) := rfl
@[simp] theorem isn_bl (i j : Bool) : isnD (.bl i) (.bl j) = .ret (.bl (!decide (i = j))) := rfl
@[simp] theorem abs_int (i : Int) : absD (.int i) = .ret (.int (if i < 0 then -i else i)) := rfl
@[simp] theorem int_int (i : Int) : intD (.int i) = .ret (.int i) := rfl
@[simp] theorem gcd_int (i j : Int) : gcdD (.int i) (.int j) = .ret (.int ((Nat.gcd i.natAbs j.natAbs : Nat) : Int)) := rfl
@[simp] theorem min_int (i j : Int) : minD2 (.int i) (.int j) = .ret (.int (if j < i then j else i)) := rfl
@[simp] theorem max_int (i j : Int) : maxD2 (.int i) (.int j) = .ret (.int (if j > i then j else i)) := rfl
@[simp] theorem len_tup (l : List D) : lenD (.tup l) = .ret (.int l.length) := rfl
@[simp] theorem len_lst (l : List D) : lenD (.lst l) = .ret (.int l.length) := rfl
theorem tup_ok {l : List D} (h : l.length ≤ sizeLine) : tupD l = .ret (.tup l) := by unfold tupD lenOk; rw [decide_eq_true h]; rfl
theorem lst_ok {l : List D} (h : l.length ≤ sizeLine) : lstD l = .ret (.lst l) := by unfold lstD lenOk; rw [decide_eq_true h]; rfl
theorem sub_tup {l : List D} {i : Int} {d : D} (h : atD l i = some d) : subD' (.tup l) (.int i) = .ret d := by
  funext M; unfold subD'; simp only [res, h]; rfl
theorem sub_lst {l : List D} {i : Int} {d : D} (h : atD l i = some d) : subD' (.lst l) (.int i) = .ret d := by
  funext M; unfold subD'; simp only [res, h]; rfl
theorem atD_nat {l : List D} {n : Nat} {d : D} (h : l[n]? = some d) : atD l (n : Int) = some d := by
  have hn : n < l.length := (List.getElem?_eq_some_iff.mp h).1
  unfold atD L2.ixN
  rw [if_pos (Int.natCast_nonneg n), if_pos (by omega)]
  simpa using h
@[simp] theorem tupleD_lst (l : List D) : tupleD (.lst l) = .ret (.tup l) := rfl
theorem items_ok {l : List D} {n : Nat} (h : l.length = n) : itemsT n (.tup l) = .ret l := by show cond (decide (l.length = n)) (Mo.ret l) Mo.stuck = _; rw [decide_eq_true h]; rfl
theorem add_lst {a b : List D} (h : a.length + b.length ≤ sizeLine) : addD (.lst a) (.lst b) = .ret (.lst (a ++ b)) := by
  funext M; unfold addD lenOk; simp only [res]; rw [decide_eq_true h]; rfl
@[simp] theorem itD_tup (l : List D) : itD (.tup l) = .ret ⟨l, none⟩ := rfl
@[simp] theorem itD_lst (l : List D) : itD (.lst l) = .ret ⟨l, none⟩ := rfl
/-- a def that touches nothing -/
theorem fnD_pure {N : List Str} {g : Sn} {ds : List D} {d : D} (h : g (startE N ds) = fun M => some (.ret d, M)) (hd : noref d = true) : fnD N g ds = .ret d := by
  funext M
  unfold fnD
  rw [h]
  exact fnR_ret hd (by simp)
/-- isinstance of a value with a known class -/
def isK (n : String) : D → Bool
  | .int _ => n == "int"
  | .bl _ => n == "bool" || n == "int"
  | .str _ => n == "str"
  | .tup _ => n == "tuple"
  | .lst _ => n == "list"
  | _ => false
section
variable (i : Int) (b : Bool) (x : Str) (l : List D)
@[simp] theorem k_int_int : isiD (.int i) (.ty "int") = .ret (.bl true) := isi_int i _ cl_int
@[simp] theorem k_int_bool : isiD (.int i) (.ty "bool") = .ret (.bl false) := isi_int i _ cl_bool
@[simp] theorem k_int_str : isiD (.int i) (.ty "str") = .ret (.bl false) := isi_int i _ cl_str
@[simp] theorem k_int_tup : isiD (.int i) (.ty "tuple") = .ret (.bl false) := isi_int i _ cl_tuple
@[simp] theorem k_int_lst : isiD (.int i) (.ty "list") = .ret (.bl false) := isi_int i _ cl_list
@[simp] theorem k_bl_int : isiD (.bl b) (.ty "int") = .ret (.bl true) := isi_bl b _ cl_int
@[simp] theorem k_bl_bool : isiD (.bl b) (.ty "bool") = .ret (.bl true) := isi_bl b _ cl_bool
@[simp] theorem k_bl_str : isiD (.bl b) (.ty "str") = .ret (.bl false) := isi_bl b _ cl_str
@[simp] theorem k_bl_tup : isiD (.bl b) (.ty "tuple") = .ret (.bl false) := isi_bl b _ cl_tuple
@[simp] theorem k_bl_lst : isiD (.bl b) (.ty "list") = .ret (.bl false) := isi_bl b _ cl_list
@[simp] theorem k_non_int : isiD .non (.ty "int") = .ret (.bl false) := isi_non _ cl_int
@[simp] theorem k_non_bool : isiD .non (.ty "bool") = .ret (.bl false) := isi_non _ cl_bool
@[simp] theorem k_non_str : isiD .non (.ty "str") = .ret (.bl false) := isi_non _ cl_str
@[simp] theorem k_non_tup : isiD .non (.ty "tuple") = .ret (.bl false) := isi_non _ cl_tuple
@[simp] theorem k_non_lst : isiD .non (.ty "list") = .ret (.bl false) := isi_non _ cl_list
@[simp] theorem k_str_int : isiD (.str x) (.ty "int") = .ret (.bl false) := isi_str x _ cl_int
@[simp] theorem k_str_bool : isiD (.str x) (.ty "bool") = .ret (.bl false) := isi_str x _ cl_bool
@[simp] theorem k_str_str : isiD (.str x) (.ty "str") = .ret (.bl true) := isi_str x _ cl_str
@[simp] theorem k_str_tup : isiD (.str x) (.ty "tuple") = .ret (.bl false) := isi_str x _ cl_tuple
@[simp] theorem k_str_lst : isiD (.str x) (.ty "list") = .ret (.bl false) := isi_str x _ cl_list
@[simp] theorem k_tup_int : isiD (.tup l) (.ty "int") = .ret (.bl false) := isi_tup l _ cl_int
@[simp] theorem k_tup_bool : isiD (.tup l) (.ty "bool") = .ret (.bl false) := isi_tup l _ cl_bool
@[simp] theorem k_tup_str : isiD (.tup l) (.ty "str") = .ret (.bl false) := isi_tup l _ cl_str
@[simp] theorem k_tup_tup : isiD (.tup l) (.ty "tuple") = .ret (.bl true) := isi_tup l _ cl_tuple
@[simp] theorem k_tup_lst : isiD (.tup l) (.ty "list") = .ret (.bl false) := isi_tup l _ cl_list
@[simp] theorem k_lst_int : isiD (.lst l) (.ty "int") = .ret (.bl false) := isi_lst l _ cl_int
@[simp] theorem k_lst_bool : isiD (.lst l) (.ty "bool") = .ret (.bl false) := isi_lst l _ cl_bool
@[simp] theorem k_lst_str : isiD (.lst l) (.ty "str") = .ret (.bl false) := isi_lst l _ cl_str
@[simp] theorem k_lst_tup : isiD (.lst l) (.ty "tuple") = .ret (.bl false) := isi_lst l _ cl_tuple
@[simp] theorem k_lst_lst : isiD (.lst l) (.ty "list") = .ret (.bl true) := isi_lst l _ cl_list
end
@[simp] theorem bnd_r {α β : Type} (a : α) (f : α → Mo β) : Mo.bnd (.ret a) f = f a := rfl
@[simp] theorem st_if {c : En → Mo Bool} {g1 g2 : Sn} {ρ : En} : sIf c g1 g2 ρ = sE (c ρ) ρ fun b M => cond b (g1 ρ M) (g2 ρ M) := rfl
theorem sE_if {ρ : En} (b : Bool) (g1 g2 : Mem → Option (Fl × Mem)) : sE (.ret b) ρ (fun b M => cond b (g1 M) (g2 M)) = cond b g1 g2 := by cases b <;> rfl
theorem fnD_pr {N : List Str} {g : Sn} {ds : List D} {d : D} (h : ∀ M, g (startE N ds) M = some (.ret d, M)) (hd : noref d = true := by rfl) : fnD N g ds = .ret d := fnD_pure (funext h) hd
@[simp] theorem seq_app (g1 g2 : Sn) (ρ : En) (M : Mem) : sSeq g1 g2 ρ M = match g1 ρ M with | some (.nx ρ1, M1) => g2 ρ1 M1 | r => r := rfl
@[simp] theorem sE_app {α : Type} (a : α) (ρ : En) (f : α → Mem → Option (Fl × Mem)) (M : Mem) : sE (.ret a) ρ f M = f a M := rfl
@[simp] theorem s0_app (ρ : En) (M : Mem) : s0 (.ret ρ) M = some (.nx ρ, M) := rfl
@[simp] theorem next_app (ρ : En) (M : Mem) : sNext ρ M = some (.nx ρ, M) := rfl
@[simp] theorem for_app (f : En → Mo Itd') (h : D → En → Mo En) (body : Sn) (ρ : En) (M : Mem) : sFor f h body ρ M = sE (f ρ) ρ (fun it => forL it.gd h body it.items ρ) M := rfl
@[simp] theorem forL_nil (h : D → En → Mo En) (body : Sn) (ρ : En) (M : Mem) : forL none h body [] ρ M = some (.nx ρ, M) := guardM_none _ _
theorem forL_cons (h : D → En → Mo En) (body : Sn) (d : D) (r : List D) (ρ : En) (M : Mem) : forL none h body (d :: r) ρ M = assK (h d ρ M) fun ρ1 M1 => turnK (body ρ1 M1) (forL none h body r) := guardM_none _ _
@[simp] theorem assK_ok (ρ : En) (M : Mem) (k : En → Mem → Option (Fl × Mem)) : assK (some (.ok ρ, M)) k = k ρ M := rfl
@[simp] theorem assK_r (ρ : En) (M : Mem) (k : En → Mem → Option (Fl × Mem)) : assK (Mo.ret ρ M) k = k ρ M := rfl
@[simp] theorem turnK_nx (ρ : En) (M : Mem) (k : En → Mem → Option (Fl × Mem)) : turnK (some (.nx ρ, M)) k = k ρ M := rfl
@[simp] theorem turnK_ct (ρ : En) (M : Mem) (k : En → Mem → Option (Fl × Mem)) : turnK (some (.cnt ρ, M)) k = k ρ M := rfl
@[simp] theorem turnK_bk (ρ : En) (M : Mem) (k : En → Mem → Option (Fl × Mem)) : turnK (some (.brk ρ, M)) k = some (.nx ρ, M) := rfl
@[simp] theorem turnK_rt (d : D) (M : Mem) (k : En → Mem → Option (Fl × Mem)) : turnK (some (.ret d, M)) k = some (.ret d, M) := rfl
@[simp] theorem getV_cons0 (d : D) (r : En) : getV (some d :: r) 0 = .ret d := rfl
@[simp] theorem getV_consS (x : Option D) (r : En) (n : Nat) : getV (x :: r) (n + 1) = getV r n := by unfold getV; simp
@[simp] theorem gNil_app (ρ : En) : gNilD [] ρ = .ret ρ := rfl
@[simp] theorem gCons_app (h : D → En → Mo En) (hs : List D → En → Mo En) (d : D) (r : List D) (ρ : En) : gConsD h hs (d :: r) ρ = .bnd (h d ρ) fun ρ1 => hs r ρ1 := rfl
@[simp] theorem par2_app (i j : Nat) (ρ : En) (a b : D) (M : Mem) : par2 i j ρ [a, b] M = some (.nx ((ρ.set i (some a)).set j (some b)), M) := rfl
theorem small_len {n : Nat} (h : n ≤ 1000000) : n ≤ PySem.sizeLine := by rw [PySem.sizeLine_eq]; omega
theorem forL_ind {h : D → En → Mo En} {body : Sn} (I : Nat → En → Mem → Prop) : ∀ (l : List D) (i : Nat) (ρ : En) (M : Mem), I i ρ M →
    (∀ (j : Nat) (d : D) (ρ : En) (M : Mem), l[j]? = some d → I (i + j) ρ M → ∃ ρ1 M1, h d ρ M = some (.ok ρ1, M1) ∧ ∃ ρ2 M2, (body ρ1 M1 = some (.nx ρ2, M2) ∨ body ρ1 M1 = some (.cnt ρ2, M2)) ∧ I (i + j + 1) ρ2 M2) →
    ∃ ρ' M', forL none h body l ρ M = some (.nx ρ', M') ∧ I (i + l.length) ρ' M'
  | [], i, ρ, M, h0, _ => ⟨ρ, M, forL_nil _ _ _ _, h0⟩
  | d :: r, i, ρ, M, h0, st => by
    obtain ⟨ρ1, M1, e1, ρ2, M2, e2, h2⟩ := st 0 d ρ M rfl h0
    obtain ⟨ρ', M', e3, h3⟩ := forL_ind I r (i + 1) ρ2 M2 h2 fun j d ρ M hj hI => by
      have z := st (j + 1) d ρ M (by simpa using hj) (by rw [show i + (j + 1) = i + 1 + j by omega]; exact hI)
      rw [show i + (j + 1) + 1 = i + 1 + j + 1 by omega] at z
      exact z
    refine ⟨ρ', M', ?_, by rw [List.length_cons, show i + (r.length + 1) = i + 1 + r.length by omega]; exact h3⟩
    rw [forL_cons, e1]
    show turnK (body ρ1 M1) _ = _
    rcases e2 with e2 | e2
    all_goals
      rw [e2]
      exact e3
/-- while: a measure -/
theorem while_ind {c : En → Mo Bool} {body : Sn} (I : Nat → En → Mem → Prop)
    (st : ∀ (m : Nat) (ρ : En) (M : Mem), I m ρ M → (c ρ M = some (.ok false, M)) ∨ (c ρ M = some (.ok true, M) ∧ ∃ m' < m, ∃ ρ2 M2, (body ρ M = some (.nx ρ2, M2) ∨ body ρ M = some (.cnt ρ2, M2)) ∧ I m' ρ2 M2)) :
    ∀ (n m : Nat) (ρ : En) (M : Mem), m < n → I m ρ M → ∃ m' ρ' M', whileN c body n ρ M = some (.nx ρ', M') ∧ I m' ρ' M' ∧ c ρ' M' = some (.ok false, M')
  | 0, m, ρ, M, h, _ => absurd h (Nat.not_lt_zero m)
  | n + 1, m, ρ, M, h, hI => by
    rcases st m ρ M hI with hc | ⟨hc, m', hm, ρ2, M2, hb, hI2⟩
    · refine ⟨m, ρ, M, ?_, hI, hc⟩
      unfold whileN sE
      rw [hc]; rfl
    · obtain ⟨m3, ρ', M', e, h1, h2⟩ := while_ind I st n m' ρ2 M2 (by omega) hI2
      refine ⟨m3, ρ', M', ?_, h1, h2⟩
      unfold whileN sE
      rw [hc]
      show turnK (body ρ M) (whileN c body n) = _
      rcases hb with hb | hb
      all_goals
        rw [hb]
        exact e
end DL
namespace DL
open PySem
theorem compL_ret {β : Type} {turn : D → Mo (List β)} {f : D → List β} : ∀ {l : List D}, (∀ d ∈ l, turn d = .ret (f d)) → compL none turn l = .ret (l.flatMap f)
  | [], _ => funext fun M => guardM_none _ _
  | d :: r, h => by
    funext M
    show guardM none _ M = _
    rw [guardM_none, h d List.mem_cons_self, bnd_r, compL_ret fun e he => h e (List.mem_cons_of_mem _ he), bnd_r, List.flatMap_cons]
theorem compL_map {α β : Type} {g : α → D} {turn : D → Mo (List β)} {f : α → List β} : ∀ {l : List α}, (∀ a ∈ l, turn (g a) = .ret (f a)) → compL none turn (l.map g) = .ret (l.flatMap f)
  | [], _ => funext fun M => guardM_none _ _
  | d :: r, h => by
    funext M
    show guardM none _ M = _
    rw [guardM_none, h d List.mem_cons_self, bnd_r, compL_map fun e he => h e (List.mem_cons_of_mem _ he), bnd_r, List.flatMap_cons]
theorem flat_if {α β : Type} {p : α → Bool} {g : α → β} : ∀ {l : List α}, (l.flatMap fun a => cond (p a) [g a] []) = (l.filter p).map g
  | [] => rfl
  | a :: l => by
    rw [List.flatMap_cons, flat_if, List.filter_cons]
    cases p a <;> rfl
theorem flat_one {α β : Type} {g : α → β} : ∀ {l : List α}, (l.flatMap fun a => [g a]) = l.map g
  | [] => rfl
  | a :: l => by rw [List.flatMap_cons, flat_one]; rfl
/-- a comprehension with an if -/
theorem comp_if {α β : Type} {g : α → D} {turn : D → Mo (List β)} {p : α → Bool} {f : α → β} {l : List α} (h : ∀ a ∈ l, turn (g a) = .ret (cond (p a) [f a] [])) : compL none turn (l.map g) = .ret ((l.filter p).map f) := by
  rw [compL_map h, flat_if]
theorem comp_one {α β : Type} {g : α → D} {turn : D → Mo (List β)} {f : α → β} {l : List α} (h : ∀ a ∈ l, turn (g a) = .ret [f a]) : compL none turn (l.map g) = .ret (l.map f) := by
  rw [compL_map h, flat_one]
theorem foldL_ok {β : Type} (ys : List D) : ∀ (a : List D), a.length + ys.length ≤ 1000000 → foldO stL a ys = some (a ++ ys) := by
  induction ys with
  | nil => intro a _; simp [foldO]
  | cons y r ih =>
    intro a h
    have hs : a.length < sizeLine := by rw [List.length_cons] at h; rw [PySem.sizeLine_eq]; omega
    rw [foldO, stL, if_pos hs, Option.bind_some, ih (a ++ [y]) (by simp at h ⊢; omega)]
    simp
theorem cmp_lst {ys : List D} (h : ys.length ≤ 1000000) : cmpD false stL [] .lst .lst (.ret ys) = .ret (.lst ys) := by
  funext M
  unfold cmpD
  have e : Mo.ne (.ret ys : Mo (List D)) = .ret ys := rfl
  rw [e, bnd_r, foldL_ok (β := D) ys [] (by simpa using h)]
  rfl
theorem cmp_lstM {m : Mo (List D)} {ys : List D} {M M' : Mem} (e : m M = some (.ok ys, M')) (h : ys.length ≤ 1000000) : cmpD false stL [] .lst .lst m M = some (.ok (.lst ys), M') := by
  unfold cmpD
  rw [bnd_of (ne_ok e), foldL_ok (β := D) ys [] (by simpa using h)]
  rfl
/-- all -/
theorem all_ret {α : Type} {g : α → D} {turn : D → Mo (Option Bool)} {p : α → Bool} : ∀ {l : List α}, (∀ a ∈ l, turn (g a) = .ret (some (p a))) → genL true none turn (l.map g) = .ret (l.all p)
  | [], _ => funext fun M => guardM_none _ _
  | d :: r, h => by
    funext M
    show guardM none _ M = _
    rw [guardM_none, h d List.mem_cons_self, bnd_r, all_ret fun e he => h e (List.mem_cons_of_mem _ he), List.all_cons]
    cases p d <;> rfl
@[simp] theorem genL_nil (al : Bool) (turn : D → Mo (Option Bool)) : genL al none turn [] = .ret al := funext fun M => guardM_none _ _
theorem genL_cons (al : Bool) (turn : D → Mo (Option Bool)) (d : D) (r : List D) : genL al none turn (d :: r) = Mo.bnd (turn d) fun o => match o with
    | some c => cond (c == al) (genL al none turn r) (Mo.ret (!al))
    | none => genL al none turn r := funext fun M => guardM_none _ _
@[simp] theorem genD_r (b : Bool) : genD (.ret b) = .ret (.bl b) := rfl
@[simp] theorem blD_r (b : Bool) : blD (.bl b) = .ret (some b) := rfl
@[simp] theorem compL_nil' {β : Type} (turn : D → Mo (List β)) : compL none turn [] = .ret [] := funext fun M => guardM_none _ _
theorem compL_cons' {β : Type} (turn : D → Mo (List β)) (d : D) (r : List D) : compL none turn (d :: r) = Mo.bnd (turn d) fun ys => Mo.bnd (compL none turn r) fun t => .ret (ys ++ t) := funext fun M => guardM_none _ _
theorem run_seq {g1 g2 : Sn} {ρ ρ1 : En} {M M1 : Mem} (h : g1 ρ M = some (.nx ρ1, M1)) : sSeq g1 g2 ρ M = g2 ρ1 M1 := by
  unfold sSeq; rw [h]
theorem run_ret {g1 g2 : Sn} {ρ : En} {M M1 : Mem} {d : D} (h : g1 ρ M = some (.ret d, M1)) : sSeq g1 g2 ρ M = some (.ret d, M1) := by
  unfold sSeq; rw [h]
section
variable (a b c : D) (r : List D)
@[simp] theorem sub_t0 : subD' (.tup (a :: r)) (.int 0) = .ret a := sub_tup (atD_nat (n := 0) rfl)
@[simp] theorem sub_t1 : subD' (.tup (a :: b :: r)) (.int 1) = .ret b := sub_tup (atD_nat (n := 1) rfl)
@[simp] theorem sub_t2 : subD' (.tup (a :: b :: c :: r)) (.int 2) = .ret c := sub_tup (atD_nat (n := 2) rfl)
@[simp] theorem sub_l0 : subD' (.lst (a :: r)) (.int 0) = .ret a := sub_lst (atD_nat (n := 0) rfl)
@[simp] theorem sub_l1 : subD' (.lst (a :: b :: r)) (.int 1) = .ret b := sub_lst (atD_nat (n := 1) rfl)
@[simp] theorem tup_0 : tupD [] = .ret (.tup []) := rfl
@[simp] theorem tup_1 : tupD [a] = .ret (.tup [a]) := tup_ok (small_len (by simp))
@[simp] theorem tup_2 : tupD [a, b] = .ret (.tup [a, b]) := tup_ok (small_len (by simp))
@[simp] theorem tup_3 : tupD [a, b, c] = .ret (.tup [a, b, c]) := tup_ok (small_len (by simp))
@[simp] theorem lst_0 : lstD [] = .ret (.lst []) := rfl
@[simp] theorem lst_1 : lstD [a] = .ret (.lst [a]) := lst_ok (small_len (by simp))
@[simp] theorem lst_2 : lstD [a, b] = .ret (.lst [a, b]) := lst_ok (small_len (by simp))
@[simp] theorem itms_2 : itemsT 2 (.tup [a, b]) = .ret [a, b] := items_ok rfl
@[simp] theorem itms_3 : itemsT 3 (.tup [a, b, c]) = .ret [a, b, c] := items_ok rfl
end
def rng (n : Nat) : List D := (List.range n).map fun k => .int (k : Nat)
theorem rngD1_nat {n : Nat} (h : n ≤ 8388608) : rngD1 [.int (n : Int)] = .ret ⟨(List.range n).map fun k => .int (k : Nat), none⟩ := by
  funext M
  unfold rngD1 rngB rngI
  have h1 : decide ((-8388608 : Int) ≤ (n : Int)) = true := by simp
  have h2 : decide ((n : Int) ≤ 8388608) = true := by simp; omega
  simp only [h1, h2, Bool.and_self, cond_true, Int.toNat_natCast, Int.mul_one, Int.zero_add]
  rfl
theorem rngD2_nat {m n : Nat} (hm : m ≤ 8388608) (hn : n ≤ 8388608) : rngD2 [.int (m : Int), .int (n : Int)] = .ret ⟨(List.range' m (n - m)).map fun k => .int (k : Nat), none⟩ := by
  funext M
  unfold rngD2 rngB rngI
  have h1 : decide ((-8388608 : Int) ≤ (m : Int)) = true := by simp
  have h2 : decide ((m : Int) ≤ 8388608) = true := by simp; omega
  have h3 : decide ((-8388608 : Int) ≤ (n : Int)) = true := by simp
  have h4 : decide ((n : Int) ≤ 8388608) = true := by simp; omega
  have e : ((n : Int) - (m : Int)).toNat = n - m := by omega
  simp only [h1, h2, h3, h4, Bool.and_self, cond_true, Int.mul_one, e]
  rw [List.range'_eq_map_range, List.map_map]
  simp only [Function.comp_def, Nat.add_comm, Int.natCast_add, Int.add_comm]
  rfl
section
variable {κ ν : Type} [DecidableEq κ]
def aGet : List (κ × ν) → κ → Option ν
  | [], _ => none
  | p :: r, k => if p.1 = k then some p.2 else aGet r k
def aPut (l : List (κ × ν)) (k : κ) (v : ν) : List (κ × ν) := if (aGet l k).isSome then l.map (fun p => if p.1 = k then (p.1, v) else p) else l ++ [(k, v)]
theorem aGet_none {l : List (κ × ν)} {k : κ} : aGet l k = none ↔ k ∉ l.map (·.1) := by
  induction l with
  | nil => simp [aGet]
  | cons p r ih =>
    unfold aGet
    by_cases e : p.1 = k
    · simp [e]
    · rw [if_neg e, ih]
      simp [Ne.symm e]
theorem aGet_app {l r : List (κ × ν)} {k : κ} : aGet (l ++ r) k = (aGet l k).or (aGet r k) := by
  induction l with
  | nil => rfl
  | cons p t ih =>
    show (if p.1 = k then some p.2 else aGet (t ++ r) k) = (if p.1 = k then some p.2 else aGet t k).or (aGet r k)
    by_cases e : p.1 = k
    · simp [e]
    · rw [if_neg e, if_neg e]; exact ih
theorem aGet_map {l : List (κ × ν)} {k k' : κ} {v : ν} : aGet (l.map (fun p => if p.1 = k then (p.1, v) else p)) k' = if k = k' then (aGet l k').map fun _ => v else aGet l k' := by
  induction l with
  | nil => simp [aGet]
  | cons p t ih =>
    rw [List.map_cons]
    unfold aGet
    rw [ih]
    by_cases e : p.1 = k
    · subst e
      by_cases e2 : p.1 = k'
      · simp [e2]
      · simp [e2]
    · by_cases e2 : p.1 = k'
      · subst e2
        simp [e, Ne.symm e]
      · simp [e, e2]
theorem aGet_put {l : List (κ × ν)} {k k' : κ} {v : ν} : aGet (aPut l k v) k' = if k = k' then some v else aGet l k' := by
  unfold aPut
  cases e : aGet l k with
  | none =>
    simp only [Option.isSome_none, Bool.false_eq_true, if_false]
    rw [aGet_app]
    by_cases e2 : k = k'
    · subst e2; simp [e, aGet]
    · simp [aGet, e2]
  | some w =>
    simp only [Option.isSome_some, if_true]
    rw [aGet_map]
    by_cases e2 : k = k'
    · subst e2; simp [e]
    · simp [e2]
theorem keys_put {l : List (κ × ν)} {k : κ} {v : ν} : (aPut l k v).map (·.1) = if k ∈ l.map (·.1) then l.map (·.1) else l.map (·.1) ++ [k] := by
  unfold aPut
  cases e : aGet l k with
  | none =>
    rw [if_neg (aGet_none.mp e)]
    simp
  | some w =>
    have : k ∈ l.map (·.1) := Classical.byContradiction fun h => by rw [aGet_none.mpr h] at e; cases e
    rw [if_pos this]
    simp only [Option.isSome_some, if_true, List.map_map]
    apply List.map_congr_left
    intro p _
    simp only [Function.comp]
    split <;> rfl
theorem nodup_put {l : List (κ × ν)} {k : κ} {v : ν} (h : (l.map (·.1)).Nodup) : ((aPut l k v).map (·.1)).Nodup := by
  rw [keys_put]
  split
  · exact h
  · rename_i q
    rw [List.nodup_append]
    refine ⟨h, by simp, fun a ha b hb => ?_⟩
    simp at hb
    subst hb
    intro e; subst e; exact q ha
theorem mem_keys_put {l : List (κ × ν)} {k k' : κ} {v : ν} : k' ∈ (aPut l k v).map (·.1) ↔ k' = k ∨ k' ∈ l.map (·.1) := by
  rw [keys_put]
  split
  · rename_i q
    constructor
    · exact .inr
    · rintro (rfl | h)
      · exact q
      · exact h
  · simp only [List.mem_append, List.mem_singleton]
    exact Or.comm
theorem len_put {l : List (κ × ν)} {k : κ} {v : ν} : (aPut l k v).length ≤ l.length + 1 := by
  unfold aPut
  split <;> simp
theorem aGet_mem {l : List (κ × ν)} (h : (l.map (·.1)).Nodup) {k : κ} {v : ν} : aGet l k = some v ↔ (k, v) ∈ l := by
  induction l with
  | nil => simp [aGet]
  | cons p r ih =>
    rw [List.map_cons, List.nodup_cons] at h
    unfold aGet
    by_cases e : p.1 = k
    · subst e
      simp only [if_true, Option.some.injEq, List.mem_cons]
      constructor
      · intro q; left; subst q; rfl
      · rintro (q | q)
        · rw [← q]
        · exact absurd (List.mem_map_of_mem (f := (·.1)) q) h.1
    · rw [if_neg e, ih h.2, List.mem_cons]
      constructor
      · exact .inr
      · rintro (q | q)
        · rw [← q] at e; exact absurd rfl e
        · exact q
theorem aGet_key {l : List (κ × ν)} {k : κ} : k ∈ l.map (·.1) ↔ ∃ v, aGet l k = some v := by
  cases e : aGet l k with
  | none =>
    have := aGet_none.mp e
    simp [this]
  | some v =>
    simp
    have : k ∈ l.map (·.1) := Classical.byContradiction fun h => by rw [aGet_none.mpr h] at e; cases e
    simpa using this
end
/-- keys as values -/
structure KN (κ : Type) {κ' : Type} (dec : D → Option κ') where
  ek : κ → D
  tk : κ → κ'
  h : ∀ k, dec (ek k) = some (tk k)
  inj : ∀ a b, tk a = tk b → a = b
section
variable {κ ν κ' : Type} [DecidableEq κ] [DecidableEq κ'] {dec : D → Option κ'} (N : KN κ dec) (ev : ν → D)
def kvs (l : List (κ × ν)) : List (D × D) := l.map fun p => (N.ek p.1, ev p.2)
theorem findG_kvs {l : List (κ × ν)} {k : κ} : findG dec (kvs N ev l) (N.tk k) = (aGet l k).map ev := by
  induction l with
  | nil => rfl
  | cons p r ih =>
    show (if dec (N.ek p.1) = some (N.tk k) then some (ev p.2) else findG dec (kvs N ev r) (N.tk k)) = _
    unfold aGet
    rw [ih, N.h]
    by_cases e : p.1 = k
    · subst e; simp
    · rw [if_neg e, if_neg fun q => e (N.inj _ _ (Option.some.inj q))]
theorem putG_kvs {l : List (κ × ν)} {k : κ} {v : ν} : putG dec (kvs N ev l) (N.tk k) (N.ek k) (ev v) = kvs N ev (aPut l k v) := by
  unfold putG aPut
  rw [findG_kvs, Option.isSome_map]
  split
  · unfold kvs
    rw [List.map_map, List.map_map]
    apply List.map_congr_left
    intro p _
    simp only [Function.comp]
    rw [N.h]
    by_cases e : p.1 = k
    · subst e; simp
    · rw [if_neg e, if_neg fun q => e (N.inj _ _ (Option.some.inj q))]
  · unfold kvs; simp
theorem kvs_len (l : List (κ × ν)) : (kvs N ev l).length = l.length := by simp [kvs]
end
/-- ints as keys -/
def kI : KN Nat toK where
  ek n := .int n
  tk n := .inl n
  h _ := rfl
  inj a b h := by have := Sum.inl.inj h; omega
/-- pairs of ints -/
def eP (k : Nat × Nat) : D := .tup [.int k.1, .int k.2]
def kP : KN (Nat × Nat) toKT where
  ek := eP
  tk k := [.inl k.1, .inl k.2]
  h _ := rfl
  inj a b h := by
    simp only [List.cons.injEq, Sum.inl.injEq, and_true] at h
    obtain ⟨h1, h2⟩ := h
    ext <;> omega
section
variable {ν : Type} (ev : ν → D)
theorem lookB_kP {l : List ((Nat × Nat) × ν)} {k : Nat × Nat} : lookB true (kvs kP ev l) (eP k) = some ((aGet l k).map ev) := by
  unfold lookB
  show (toKT (kP.ek k)).map _ = _
  rw [kP.h, Option.map_some, findG_kvs]
theorem putB_kP {l : List ((Nat × Nat) × ν)} {k : Nat × Nat} {v : ν} : putB true (kvs kP ev l) (eP k) (ev v) = some (kvs kP ev (aPut l k v)) := by
  unfold putB
  show (toKT (kP.ek k)).map _ = _
  rw [kP.h, Option.map_some]
  exact congrArg some (putG_kvs kP ev)
theorem lookB_kI {l : List (Nat × ν)} {k : Nat} : lookB false (kvs kI ev l) (.int k) = some ((aGet l k).map ev) := by
  unfold lookB
  show (toK (kI.ek k)).map _ = _
  rw [kI.h, Option.map_some, findG_kvs]
theorem putB_kI {l : List (Nat × ν)} {k : Nat} {v : ν} : putB false (kvs kI ev l) (.int k) (ev v) = some (kvs kI ev (aPut l k v)) := by
  unfold putB
  show (toK (kI.ek k)).map _ = _
  rw [kI.h, Option.map_some]
  exact congrArg some (putG_kvs kI ev)
/-- a dict comprehension with distinct keys -/
theorem fold_kP : ∀ (r l : List ((Nat × Nat) × ν)), ((l ++ r).map (·.1)).Nodup → l.length + r.length ≤ 1000000 → foldO (stD true) (kvs kP ev l) (kvs kP ev r) = some (kvs kP ev (l ++ r))
  | [], l, _, _ => by simp [kvs, foldO]
  | p :: r, l, h, hl => by
    have hs : (kvs kP ev l).length < sizeLine := by rw [kvs_len, PySem.sizeLine_eq]; rw [List.length_cons] at hl; omega
    show (stD true (kvs kP ev l) (eP p.1, ev p.2)).bind _ = _
    unfold stD
    rw [if_pos hs, putB_kP]
    have hn : p.1 ∉ l.map (·.1) := by
      rw [List.map_append, List.nodup_append] at h
      intro q
      exact h.2.2 _ q p.1 (by simp) rfl
    have e : aPut l p.1 p.2 = l ++ [p] := by unfold aPut; rw [aGet_none.mpr hn]; rfl
    rw [e, Option.bind_some]
    rw [show l ++ p :: r = l ++ [p] ++ r by simp] at h ⊢
    exact fold_kP r (l ++ [p]) h (by simp at hl ⊢; omega)
theorem cmp_kP {md : Bool} {l : List ((Nat × Nat) × ν)} (h : (l.map (·.1)).Nodup) (hl : l.length ≤ 1000000) : cmpD md (stD true) [] (.dct true) (.dct true) (.ret (kvs kP ev l)) = finDO md (.dct true (kvs kP ev l)) (.dct true (kvs kP ev l)) := by
  funext M
  unfold cmpD
  have e : Mo.ne (.ret (kvs kP ev l) : Mo (List (D × D))) = .ret (kvs kP ev l) := rfl
  rw [e, bnd_r]
  have z := fold_kP ev l [] (by simpa using h) (by simpa using hl)
  rw [show kvs kP ev ([] : List ((Nat × Nat) × ν)) = [] from rfl, List.nil_append] at z
  rw [z]
end
@[simp] theorem finDO_f (d : D) (o : O) : finDO false d o = .ret d := rfl
@[simp] theorem finDO_t (d : D) (o : O) (M : Mem) : finDO true d o M = some (.ok (.ref M.length), M ++ [o]) := rfl
def ltP (a b : Nat × Nat) : Prop := a.1 < b.1 ∨ (a.1 = b.1 ∧ a.2 < b.2)
instance (a b : Nat × Nat) : Decidable (ltP a b) := by unfold ltP; infer_instance
theorem ltP.irr {a : Nat × Nat} (h : ltP a a) : False := by unfold ltP at h; omega
theorem ltP.trans {a b c : Nat × Nat} (h1 : ltP a b) (h2 : ltP b c) : ltP a c := by unfold ltP at *; omega
theorem ltP.tot {a b : Nat × Nat} (h : ¬ ltP a b) (h2 : ¬ ltP b a) : a = b := by
  unfold ltP at h h2
  ext <;> omega
theorem dataLt_pair (a b c d : Int) : PySem.W.dataLt (.tuple [.int a, .int b]) (.tuple [.int c, .int d]) = decide (a < c ∨ (a = c ∧ b < d)) := by
  show PyProof.Rows.lexLt PyProof.Rows.itemOrd [.inl 1, .inl a, .inl 1, .inl b, .inl 0] [.inl 1, .inl c, .inl 1, .inl d, .inl 0] = _
  simp only [PyProof.Rows.lexLt, PyProof.Rows.itemOrd, PyProof.Rows.itemLt]
  rw [Bool.eq_iff_iff]
  simp
  omega
theorem ltD_pair (a b c d : Int) : ltD (.tup [.int a, .int b]) (.tup [.int c, .int d]) = .ret (.bl (decide (a < c ∨ (a = c ∧ b < d)))) := by
  funext M
  unfold ltD
  simp only [res, py, pyL, Option.map_some]
  rw [← dataLt_pair]
  rw [if_pos]
  · rfl
  · exact ⟨rfl, show 1 ≤ 64 by decide⟩
theorem ltD_eP (a b : Nat × Nat) : ltD (eP a) (eP b) = .ret (.bl (decide (ltP a b))) := by
  unfold eP ltP
  rw [ltD_pair]
  congr 3
  have : (((a.1 : Int) < b.1 ∨ ((a.1 : Int) = b.1 ∧ (a.2 : Int) < b.2))) = (a.1 < b.1 ∨ (a.1 = b.1 ∧ a.2 < b.2)) := by apply propext; omega
  exact this
/-- by the order of pairs -/
def leP (a b : Nat × Nat) : Bool := !decide (ltP b a)
theorem leP_trans : ∀ a b c, leP a b = true → leP b c = true → leP a c = true := by
  intro a b c h1 h2
  unfold leP at *
  simp only [Bool.not_eq_true', decide_eq_false_iff_not] at *
  unfold ltP at *
  omega
theorem leP_total : ∀ a b, (leP a b || leP b a) = true := by
  intro a b
  unfold leP
  simp only [Bool.or_eq_true, Bool.not_eq_true', decide_eq_false_iff_not]
  unfold ltP
  omega
def sortP (l : List (Nat × Nat)) : List (Nat × Nat) := l.mergeSort leP
theorem sortP_perm (l : List (Nat × Nat)) : (sortP l).Perm l := List.mergeSort_perm _ _
theorem sortP_mem {l : List (Nat × Nat)} {a : Nat × Nat} : a ∈ sortP l ↔ a ∈ l := (sortP_perm l).mem_iff
theorem sortP_lt {l : List (Nat × Nat)} (h : l.Nodup) : (sortP l).Pairwise ltP := by
  have z := List.pairwise_mergeSort leP_trans leP_total l
  have n : (sortP l).Nodup := (sortP_perm l).nodup_iff.mpr h
  have := z.and n
  refine this.imp fun ⟨h1, h2⟩ => ?_
  unfold leP at h1
  simp at h1
  exact Classical.byContradiction fun q => h2 (ltP.tot q h1)
theorem enc_eP (a : Nat × Nat) : enc (eP a) = .tuple [.int a.1, .int a.2] := rfl
theorem sortL_eP (l : List (Nat × Nat)) : sortL (l.map eP) = (sortP l).map eP := by
  unfold sortL sortP
  symm
  apply List.map_mergeSort
  intro a _ b _
  unfold leP PySem.W.dataLe PySem.W.sortLe
  simp only [cond_false]
  have z := dataLt_pair b.1 b.2 a.1 a.2
  unfold PySem.W.dataLt at z
  rw [enc_eP, enc_eP]
  show _ = !PyProof.Rows.lexLt PyProof.Rows.itemOrd _ _
  rw [z]
  congr 1
  have : (((b.1 : Int) < a.1 ∨ ((b.1 : Int) = a.1 ∧ (b.2 : Int) < a.2))) = ltP b a := by unfold ltP; apply propext; omega
  rw [Bool.eq_iff_iff, decide_eq_true_iff, decide_eq_true_iff, this]
theorem pyL_eP (l : List (Nat × Nat)) : pyL (l.map eP) = some (l.map fun a => .tuple [.int a.1, .int a.2]) := by
  induction l with
  | nil => rfl
  | cons a r ih => rw [List.map_cons, pyL, ih]; rfl
theorem sortOk_eP (l : List (Nat × Nat)) : sortOk (l.map eP) = true := by
  unfold sortOk
  rw [pyL_eP]
  simp only [Option.isSome_some, Bool.true_and, Bool.and_eq_true]
  refine ⟨⟨?_, ?_⟩, ?_⟩
  · unfold alikeB
    rw [List.all_eq_true]
    intro d hd
    rw [List.all_eq_true]
    intro d' hd'
    simp only [List.map_map, List.mem_map, Function.comp] at hd hd'
    obtain ⟨a, _, rfl⟩ := hd
    obtain ⟨b, _, rfl⟩ := hd'
    rfl
  · unfold sortB
    rw [Bool.or_eq_true]
    left
    rw [List.all_eq_true]
    intro d hd
    simp only [List.map_map, List.mem_map, Function.comp] at hd
    obtain ⟨a, _, rfl⟩ := hd
    rfl
  · rw [List.all_eq_true]
    intro d hd
    simp only [List.mem_map] at hd
    obtain ⟨a, _, rfl⟩ := hd
    rfl
theorem sortedD_eP {M : Mem} {d : D} {l : List (Nat × Nat)} (h : seqK M d = some (l.map eP)) : sortedD false d M = some (.ok (.lst ((sortP l).map eP)), M) := by
  unfold sortedD
  rw [h]
  simp only [sortOk_eP, cond_true, sortL_eP]
  rfl
theorem dataLt_int' (a b : Int) : PyProof.Rows.lexLt PyProof.Rows.itemOrd (PySem.W.keyToks (.int a)) (PySem.W.keyToks (.int b)) = decide (a < b) := by
  show PyProof.Rows.lexLt PyProof.Rows.itemOrd [.inl a] [.inl b] = _
  simp only [PyProof.Rows.lexLt, PyProof.Rows.itemOrd, PyProof.Rows.itemLt]
  simp
def eN (n : Nat) : D := .int n
def sortN (l : List Nat) : List Nat := l.mergeSort fun a b => decide (a ≤ b)
theorem sortN_mem {l : List Nat} {a : Nat} : a ∈ sortN l ↔ a ∈ l := (List.mergeSort_perm _ _).mem_iff
theorem sortN_lt {l : List Nat} (h : l.Nodup) : (sortN l).Pairwise (· < ·) := by
  have z := List.pairwise_mergeSort (le := fun a b : Nat => decide (a ≤ b)) (by intro a b c h1 h2; simp at h1 h2 ⊢; omega) (by intro a b; simp; omega) l
  have n : (sortN l).Nodup := (List.mergeSort_perm _ _).nodup_iff.mpr h
  refine (z.and n).imp fun ⟨h1, h2⟩ => ?_
  simp at h1
  omega
theorem sortL_eN (l : List Nat) : sortL (l.map eN) = (sortN l).map eN := by
  unfold sortL sortN
  symm
  apply List.map_mergeSort
  intro a _ b _
  unfold PySem.W.dataLe PySem.W.sortLe
  simp only [cond_false]
  show _ = !PyProof.Rows.lexLt PyProof.Rows.itemOrd (PySem.W.keyToks (.int b)) (PySem.W.keyToks (.int a))
  rw [dataLt_int']
  rw [Bool.eq_iff_iff]; simp
theorem pyL_eN (l : List Nat) : pyL (l.map eN) = some (l.map fun a => .int a) := by
  induction l with
  | nil => rfl
  | cons a r ih => rw [List.map_cons, pyL, ih]; rfl
theorem sortOk_eN (l : List Nat) : sortOk (l.map eN) = true := by
  unfold sortOk
  rw [pyL_eN]
  simp only [Option.isSome_some, Bool.true_and, Bool.and_eq_true]
  refine ⟨⟨?_, ?_⟩, ?_⟩
  · unfold alikeB
    rw [List.all_eq_true]
    intro d hd
    rw [List.all_eq_true]
    intro d' hd'
    simp only [List.map_map, List.mem_map, Function.comp] at hd hd'
    obtain ⟨a, _, rfl⟩ := hd
    obtain ⟨b, _, rfl⟩ := hd'
    rfl
  · unfold sortB
    rw [Bool.or_eq_true]
    right
    rw [List.all_eq_true]
    intro d hd
    simp only [List.map_map, List.mem_map, Function.comp] at hd
    obtain ⟨a, _, rfl⟩ := hd
    rfl
  · rw [List.all_eq_true]
    intro d hd
    simp only [List.mem_map] at hd
    obtain ⟨a, _, rfl⟩ := hd
    rfl
theorem sortedD_eN {M : Mem} {d : D} {l : List Nat} (h : seqK M d = some (l.map eN)) : sortedD false d M = some (.ok (.lst ((sortN l).map eN)), M) := by
  unfold sortedD
  rw [h]
  simp only [sortOk_eN, cond_true, sortL_eN]
  rfl
theorem eq_of_pw {α : Type} {lt : α → α → Prop} (irr : ∀ a, ¬ lt a a) (tr : ∀ a b c, lt a b → lt b c → lt a c) : ∀ {l m : List α}, l.Pairwise lt → m.Pairwise lt → (∀ a, a ∈ l ↔ a ∈ m) → l = m
  | [], [], _, _, _ => rfl
  | [], b :: m, _, _, h => absurd ((h b).mpr List.mem_cons_self) List.not_mem_nil
  | a :: l, [], _, _, h => absurd ((h a).mp List.mem_cons_self) List.not_mem_nil
  | a :: l, b :: m, hl, hm, h => by
    rw [List.pairwise_cons] at hl hm
    have e : a = b := by
      rcases List.mem_cons.mp ((h a).mp List.mem_cons_self) with e | h1
      · exact e
      · rcases List.mem_cons.mp ((h b).mpr List.mem_cons_self) with e | h2
        · exact e.symm
        · exact absurd (tr _ _ _ (hl.1 b h2) (hm.1 a h1)) (irr a)
    subst e
    congr 1
    refine eq_of_pw irr tr hl.2 hm.2 fun c => ⟨fun hc => ?_, fun hc => ?_⟩
    · rcases List.mem_cons.mp ((h c).mp (List.mem_cons_of_mem _ hc)) with e | q
      · subst e; exact absurd (hl.1 c hc) (irr c)
      · exact q
    · rcases List.mem_cons.mp ((h c).mpr (List.mem_cons_of_mem _ hc)) with e | q
      · subst e; exact absurd (hm.1 c hc) (irr c)
      · exact q
theorem len_lt {B : Nat} : ∀ {l : List Nat} (s : Nat), l.Pairwise (· < ·) → (∀ a ∈ l, s ≤ a ∧ a < B) → s + l.length ≤ max s B
  | [], s, _, _ => by simp; omega
  | a :: l, s, h, hb => by
    rw [List.pairwise_cons] at h
    have h1 := hb a List.mem_cons_self
    have z := len_lt (l := l) (a + 1) h.2 fun b hb' => ⟨h.1 b hb', (hb b (List.mem_cons_of_mem _ hb')).2⟩
    rw [List.length_cons]
    omega
theorem len_nodup {B : Nat} {l : List Nat} (h : l.Nodup) (hb : ∀ a ∈ l, a < B) : l.length ≤ B := by
  have z := len_lt (B := B) 0 (sortN_lt h) fun a ha => ⟨Nat.zero_le _, hb a (sortN_mem.mp ha)⟩
  have e : (sortN l).length = l.length := List.length_mergeSort _
  omega
theorem code_inj {n a b c d : Nat} (hb : b < n) (hd : d < n) (h : a * n + b = c * n + d) : a = c ∧ b = d := by
  have e : a = c := by
    rcases Nat.lt_trichotomy a c with q | q | q
    · have := Nat.mul_le_mul_right n (show a + 1 ≤ c from q)
      rw [Nat.add_mul] at this; omega
    · exact q
    · have := Nat.mul_le_mul_right n (show c + 1 ≤ a from q)
      rw [Nat.add_mul] at this; omega
  subst e
  exact ⟨rfl, by omega⟩
theorem len_pairs {m n : Nat} {l : List (Nat × Nat)} (h : l.Nodup) (hl : ∀ a ∈ l, a.1 < m ∧ a.2 < n) : l.length ≤ m * n := by
  have z := len_nodup (B := m * n) (l := l.map fun a => a.1 * n + a.2) (by
    unfold List.Nodup at *
    rw [List.pairwise_map]
    refine h.imp_of_mem fun {a b} ha hb hne q => hne ?_
    obtain ⟨h1, h2⟩ := code_inj (hl a ha).2 (hl b hb).2 q
    ext <;> assumption) (fun c hc => by
    obtain ⟨a, ha, rfl⟩ := List.mem_map.mp hc
    obtain ⟨h1, h2⟩ := hl a ha
    have := Nat.mul_le_mul_right n (show a.1 + 1 ≤ m from h1)
    rw [Nat.add_mul] at this; omega)
  simpa using z
end DL
namespace DL
open PySem
theorem bnd_M {α β : Type} {m : Mo α} {f : α → Mo β} {M M1 : Mem} {a : α} (h : m M = some (.ok a, M1)) : Mo.bnd m f M = f a M1 := bnd_of h
theorem compL_M {α β : Type} {g : α → D} {turn : D → Mo (List β)} {f : α → List β} {M : Mem} : ∀ {l : List α}, (∀ a ∈ l, turn (g a) M = some (.ok (f a), M)) → compL none turn (l.map g) M = some (.ok (l.flatMap f), M)
  | [], _ => guardM_none _ _
  | d :: r, h => by
    show guardM none _ M = _
    rw [guardM_none, bnd_M (h d List.mem_cons_self), bnd_M (compL_M fun e he => h e (List.mem_cons_of_mem _ he)), List.flatMap_cons]
    rfl
theorem comp_ifM {α β : Type} {g : α → D} {turn : D → Mo (List β)} {p : α → Bool} {f : α → β} {l : List α} {M : Mem} (h : ∀ a ∈ l, turn (g a) M = some (.ok (cond (p a) [f a] []), M)) : compL none turn (l.map g) M = some (.ok ((l.filter p).map f), M) := by
  rw [compL_M h, flat_if]
theorem comp_oneM {α β : Type} {g : α → D} {turn : D → Mo (List β)} {f : α → β} {l : List α} {M : Mem} (h : ∀ a ∈ l, turn (g a) M = some (.ok [f a], M)) : compL none turn (l.map g) M = some (.ok (l.map f), M) := by
  rw [compL_M h, flat_one]
theorem all_M {α : Type} {g : α → D} {turn : D → Mo (Option Bool)} {p : α → Bool} {M : Mem} : ∀ {l : List α}, (∀ a ∈ l, turn (g a) M = some (.ok (some (p a)), M)) → genL true none turn (l.map g) M = some (.ok (l.all p), M)
  | [], _ => guardM_none _ _
  | d :: r, h => by
    show guardM none _ M = _
    rw [guardM_none, bnd_M (h d List.mem_cons_self), List.all_cons]
    cases e : p d with
    | false => rfl
    | true => exact all_M fun e he => h e (List.mem_cons_of_mem _ he)
theorem comp_if2 {α β γ : Type} {g : α → D} {turn : D → Mo (List γ)} {p : α → Bool} {f : α → β} {u : β → γ} {l : List α} (h : ∀ a ∈ l, turn (g a) = .ret (cond (p a) [u (f a)] [])) : compL none turn (l.map g) = .ret (((l.filter p).map f).map u) := by
  rw [comp_if (f := fun a => u (f a)) h, List.map_map]; rfl
theorem comp_exM {β : Type} {turn : D → Mo (List β)} (I : Mem → Prop) (P : β → Prop) : ∀ {l : List D} {M : Mem}, I M → (∀ d ∈ l, ∀ M, I M → ∃ b M', turn d M = some (.ok [b], M') ∧ I M' ∧ P b) → ∃ bs M', compL none turn l M = some (.ok bs, M') ∧ I M' ∧ bs.length = l.length ∧ ∀ b ∈ bs, P b
  | [], M, h, _ => ⟨[], M, guardM_none _ _, h, rfl, by simp⟩
  | d :: r, M, h, z => by
    obtain ⟨b, M1, e1, i1, p1⟩ := z d List.mem_cons_self M h
    obtain ⟨bs, M2, e2, i2, l2, p2⟩ := comp_exM I P (l := r) i1 fun e he => z e (List.mem_cons_of_mem _ he)
    refine ⟨b :: bs, M2, ?_, i2, by simp [l2], fun c hc => ?_⟩
    · rw [compL_cons', bnd_M e1, bnd_M e2]; rfl
    · rcases List.mem_cons.mp hc with rfl | hc
      · exact p1
      · exact p2 _ hc
theorem genD_M {m : Mo Bool} {b : Bool} {M M' : Mem} (h : m M = some (.ok b, M')) : genD m M = some (.ok (.bl b), M') := by
  unfold genD
  rw [bnd_of (ne_ok h)]; rfl
theorem sub_dct {M : Mem} {d : D} {t : Bool} {l : List (D × D)} {b v : D} (h : res M d = .dct t l) (e : lookB t l b = some (some v)) : subD' d b M = some (.ok v, M) := by
  unfold subD'; simp only [h, e]
theorem isDc_of {M : Mem} {d : D} {t : Bool} {l : List (D × D)} (h : res M d = .dct t l) : isDc M d = true := by
  unfold isDc dctB; rw [h]; rfl
theorem chk_dc {α : Type} {M : Mem} {d : D} {t : Bool} {l : List (D × D)} {m : Mo α} (h : res M d = .dct t l) : chkM isDc d m M = m M := by
  unfold chkM; rw [isDc_of h]; rfl
theorem get_dct {M : Mem} {d : D} {t : Bool} {l : List (D × D)} {b v : D} {o : Option D} (h : res M d = .dct t l) (e : lookB t l b = some o) : getD' d [b, v] M = some (.ok (o.getD v), M) := by
  unfold getD' dctB; simp only [h, e]
theorem get_dct1 {M : Mem} {d : D} {t : Bool} {l : List (D × D)} {b : D} {o : Option D} (h : res M d = .dct t l) (e : lookB t l b = some o) : getD' d [b] M = some (.ok (o.getD .non), M) := by
  unfold getD' dctB; simp only [h, e]
theorem store_dct {M : Mem} {n : Nat} {t : Bool} {l l' : List (D × D)} {b v : D} {ρ : En} (h : M[n]? = some (.dct t l)) (hl : l.length ≤ 1000000) (e : putB t l b v = some l') : storeM (.ref n) b v ρ M = some (.ok ρ, M.set n (.dct t l')) := by
  unfold storeM storeB
  have hs : l.length < sizeLine := by rw [PySem.sizeLine_eq]; omega
  simp only [h, e, if_pos hs, Option.map_some]
theorem res_ref {M : Mem} {n : Nat} {t : Bool} {l : List (D × D)} (h : M[n]? = some (.dct t l)) : res M (.ref n) = .dct t l := by simp [res, h]
theorem sE_M {α : Type} {m : Mo α} {ρ : En} {f : α → Mem → Option (Fl × Mem)} {M M1 : Mem} {a : α} (h : m M = some (.ok a, M1)) : sE m ρ f M = f a M1 := by
  unfold sE; rw [h]
/-- a def that touches nothing, at one memory -/
theorem fnD_at {N : List Str} {g : Sn} {ds : List D} {d : D} {M : Mem} (h : g (startE N ds) M = some (.ret d, M)) (hd : noref d = true) : fnD N g ds M = some (.ok d, M) := by
  unfold fnD
  rw [h]
  exact fnR_ret hd (by simp)
/-- a def that makes new objects -/
theorem fnD_new {N : List Str} {g : Sn} {ds : List D} {d : D} {M M' : Mem} (h : g (startE N ds) M = some (.ret d, M ++ M')) (hd : noref d = true) : fnD N g ds M = some (.ok d, M) := by
  unfold fnD
  rw [h]
  exact fnR_ret hd (by simp)
theorem fnD_obj {N : List Str} {g : Sn} {ds : List D} {d d' : D} {M X : Mem} (h : g (startE N ds) M = some (.ret d, M ++ X)) (hd : subst (frF (M ++ X) M.length 3) d = some d') : fnD N g ds M = some (.ok d', M) := by
  unfold fnD
  rw [h]
  show fin M (M ++ X) d = _
  unfold fin
  rw [hd, finM_same _ _ (by simp)]
theorem frF_dct {M : Mem} {n0 j k : Nat} {t : Bool} {l : List (D × D)} (h : M[k]? = some (.dct t l)) (hk : n0 ≤ k) (hl : norefK l = true) : frF M n0 (j + 1) k = some (.dct t l) := by
  unfold frF
  rw [if_neg (by omega), h]
  simp only [substK_noref hl, Option.map_some]
theorem substL_maps {α : Type} {f : Nat → Option D} {g h : α → D} : ∀ {l : List α}, (∀ a ∈ l, subst f (g a) = some (h a)) → substL f (l.map g) = some (l.map h)
  | [], _ => rfl
  | a :: l, z => by
    rw [List.map_cons, substL, z a List.mem_cons_self, substL_maps fun b hb => z b (List.mem_cons_of_mem _ hb)]
    rfl
end DL
namespace DL
open PySem L2
/-- each once, in the order they come -/
def ddf : List (Nat × Nat) → List (Nat × Nat) → List (Nat × Nat)
  | l, [] => l
  | l, y :: r => ddf (if y ∈ l then l else l ++ [y]) r
theorem ddf_mem {x : Nat × Nat} : ∀ {r l : List (Nat × Nat)}, x ∈ ddf l r ↔ x ∈ l ∨ x ∈ r
  | [], l => by simp [ddf]
  | y :: r, l => by
    rw [ddf, ddf_mem, List.mem_cons]
    split
    · rename_i h
      constructor
      · rintro (q | q)
        · exact .inl q
        · exact .inr (.inr q)
      · rintro (q | q | q)
        · exact .inl q
        · subst q; exact .inl h
        · exact .inr q
    · simp [or_assoc]
theorem ddf_nodup : ∀ {r l : List (Nat × Nat)}, l.Nodup → (ddf l r).Nodup
  | [], l, h => h
  | y :: r, l, h => by
    rw [ddf]
    refine ddf_nodup ?_
    split
    · exact h
    · rename_i q
      rw [List.nodup_append]
      refine ⟨h, by simp, fun a ha b hb => ?_⟩
      simp at hb
      subst hb
      intro e; subst e; exact q ha
def ip (k : Nat × Nat) : List Int := [(k.1 : Int), (k.2 : Int)]
theorem ip_inj {a b : Nat × Nat} (h : ip a = ip b) : a = b := by
  unfold ip at h
  simp only [List.cons.injEq, and_true] at h
  obtain ⟨h1, h2⟩ := h
  ext <;> omega
theorem ip_mem {a : Nat × Nat} {l : List (Nat × Nat)} : ip a ∈ l.map ip ↔ a ∈ l := by
  rw [List.mem_map]
  constructor
  · rintro ⟨b, hb, e⟩
    rw [← ip_inj e]; exact hb
  · intro h; exact ⟨a, h, rfl⟩
theorem set_fold {p q : Nat} (hpq : p * q ≤ 60) : ∀ (r l : List (Nat × Nat)), l.Nodup → (∀ a ∈ l, a.1 < p ∧ a.2 < q) → (∀ a ∈ r, a.1 < p ∧ a.2 < q) →
    foldO (fun (l : List (List Int)) y => if l.length + 1 < 64 then some (if y ∈ l then l else l ++ [y]) else none) (l.map ip) (r.map ip) = some ((ddf l r).map ip)
  | [], l, _, _, _ => rfl
  | y :: r, l, nd, hl, hr => by
    have hn := len_pairs nd hl
    have hlt : (l.map ip).length + 1 < 64 := by rw [List.length_map]; omega
    show (if (l.map ip).length + 1 < 64 then some (if ip y ∈ l.map ip then l.map ip else l.map ip ++ [ip y]) else none).bind _ = _
    rw [if_pos hlt, Option.bind_some]
    have e : (if ip y ∈ l.map ip then l.map ip else l.map ip ++ [ip y]) = (if y ∈ l then l else l ++ [y]).map ip := by
      by_cases h : y ∈ l
      · rw [if_pos h, if_pos (ip_mem.mpr h)]
      · rw [if_neg h, if_neg fun z => h (ip_mem.mp z)]; simp
    rw [e, ddf]
    refine set_fold hpq r _ ?_ ?_ fun a ha => hr a (List.mem_cons_of_mem _ ha)
    · split
      · exact nd
      · rename_i q
        rw [List.nodup_append]
        refine ⟨nd, by simp, fun a ha b hb => ?_⟩
        simp at hb
        subst hb
        intro e; subst e; exact q ha
    · intro a ha
      split at ha
      · exact hl a ha
      · rcases List.mem_append.mp ha with h | h
        · exact hl a h
        · simp at h; subst h; exact hr _ List.mem_cons_self
theorem setD_run {p q : Nat} (hpq : p * q ≤ 60) {m : Mo (List (List Int))} {r : List (Nat × Nat)} {M M' : Mem} (e : m M = some (.ok (r.map ip), M')) (hr : ∀ a ∈ r, a.1 < p ∧ a.2 < q) : setD m M = some (.ok (.set ((ddf [] r).map ip)), M') := by
  unfold setD
  rw [bnd_of (ne_ok e)]
  have z := set_fold hpq r [] (by simp) (by simp) hr
  simp only [List.map_nil] at z
  rw [z]
  rfl
theorem sortS_ip {l : List (Nat × Nat)} (h : ∀ a ∈ l, a.1 < 64 ∧ a.2 < 64) : sortS 64 (l.map ip) = (sortP l).map ip := by
  unfold sortS sortP
  symm
  apply List.map_mergeSort
  intro a ha b hb
  have h1 := h a ha
  have h2 := h b hb
  unfold leP ip
  rw [Bool.eq_iff_iff]
  simp only [Bool.not_eq_true', decide_eq_false_iff_not, decide_eq_true_eq]
  unfold ltP
  simp only [TS.code, List.length_cons, List.length_nil]
  omega
theorem sorted_set {l : List (Nat × Nat)} (h : ∀ a ∈ l, a.1 < 64 ∧ a.2 < 64) : sortedS false 2 64 (.set (l.map ip)) = .ret (.lst ((sortP l).map eP)) := by
  funext M
  unfold sortedS
  have e : (decide (1 ≤ 2) && (l.map ip).all fun k => decide (k.length = 2) && bdB 64 k) = true := by
    rw [Bool.and_eq_true]
    refine ⟨rfl, ?_⟩
    rw [List.all_eq_true]
    intro k hk
    obtain ⟨a, ha, rfl⟩ := List.mem_map.mp hk
    have := h a ha
    unfold bdB ip
    simp
    omega
  simp only [e, cond_true, sortS_ip h]
  rw [List.map_map]
  rfl
end DL
namespace K05
open PySem PySem.Spec PyProof.Rows L2 DL
def top (i : Nat) : Stmt := PySem.Challenge.pw_factorsagree_k05_whole_patterns_and_grap.main.body.getD i (.Pass ⟨0, 0, 0, 0⟩)
abbrev Fd (T : TP) (i : Nat) (x : Str) (ps : List Str) (f : Addr) (fd : FuncData) : Prop := FunD T.F x x (defArgs (top i)) (defBody (top i)) (defScope (top i)) [] [] f fd ∧ T.mg x = some (.ref f) ∧ PySem.W.keepIn T.F (.ref f) = true ∧ Binds T.F fd ps []
abbrev Ex (T : TP) (x : Str) (C : Addr) : Prop := T.mg x = some (.ref C) ∧ (PySem.W.excIn T.F C He.veBase "ValueError.__new__" = true ∧ PySem.W.keepIn T.F (.ref C) = true ∧ PySem.W.subIn T.F (.ref C) (.type "BaseException") = some true ∧ PySem.W.typeIn T.F (.ref C) = some (.type "type"))
structure Gl (T : TP) (ad : Str → Addr) (fo : Str → FuncData) (ct : Str → Addr × Addr) : Prop where
  n_abs : T.mg "abs" = none
  n_all : T.mg "all" = none
  n_bool : T.mg "bool" = none
  n_int : T.mg "int" = none
  n_isinstance : T.mg "isinstance" = none
  n_len : T.mg "len" = none
  n_list : T.mg "list" = none
  n_max : T.mg "max" = none
  n_min : T.mg "min" = none
  n_range : T.mg "range" = none
  n_reversed : T.mg "reversed" = none
  n_sorted : T.mg "sorted" = none
  n_str : T.mg "str" = none
  n_tuple : T.mg "tuple" = none
  c_gcd : T.mg "gcd" = some (.builtin "math.gcd")
  c_LIMIT : ∃ t, T.mg "LIMIT" = some (.int (10 ^ 128) t)
  c_NOUGHT : ∃ a, T.mg "NOUGHT" = some (.ref a) ∧ ∀ H, SqT T.F H a [.int 0, .int 1]
  c_MOST_SIDE : ∃ t, T.mg "MOST_SIDE" = some (.int (60) t)
  c_MOST_ENTRIES : ∃ t, T.mg "MOST_ENTRIES" = some (.int (900) t)
  x_Malformed : Ex T "Malformed" (ad "Malformed")
  x_TooMuch : Ex T "TooMuch" (ad "TooMuch")
  f_is_number : Fd T 6 "is_number" ["value", "least", "most"] (ad "is_number") (fo "is_number")
  f_is_exact : Fd T 9 "is_exact" ["value"] (ad "is_exact") (fo "is_exact")
  f_is_fraction : Fd T 10 "is_fraction" ["value"] (ad "is_fraction") (fo "is_fraction")
  f_lowest : Fd T 11 "lowest" ["part", "whole"] (ad "lowest") (fo "lowest")
  f_plus : Fd T 12 "plus" ["one", "other"] (ad "plus") (fo "plus")
  f_checked : Fd T 15 "checked" ["value"] (ad "checked") (fo "checked")
  f_from_dict : Fd T 19 "from_dict" ["rows", "columns", "table"] (ad "from_dict") (fo "from_dict")
  f_table_of : Fd T 20 "table_of" ["matrix"] (ad "table_of") (fo "table_of")
  f_transposed : Fd T 21 "transposed" ["matrix"] (ad "transposed") (fo "transposed")
  f_added : Fd T 22 "added" ["one", "other"] (ad "added") (fo "added")
  f_is_place : Fd T 24 "is_place" ["rows", "columns", "value"] (ad "is_place") (fo "is_place")
  f_is_pattern : Fd T 25 "is_pattern" ["value"] (ad "is_pattern") (fo "is_pattern")
  t_is_pattern : GxR.TabB T.base T.mg (ct "is_pattern").1 (ct "is_pattern").2 ∧ (fo "is_pattern").code = .ref (ct "is_pattern").1 ∧ (ct "is_pattern").2 ∈ T.cs.map (·.2)
  f_pattern_of : Fd T 26 "pattern_of" ["matrix"] (ad "pattern_of") (fo "pattern_of")
  f_is_graph : Fd T 27 "is_graph" ["value"] (ad "is_graph") (fo "is_graph")
  t_is_graph : GxR.TabB T.base T.mg (ct "is_graph").1 (ct "is_graph").2 ∧ (fo "is_graph").code = .ref (ct "is_graph").1 ∧ (ct "is_graph").2 ∈ T.cs.map (·.2)
  f_graph_of : Fd T 28 "graph_of" ["pattern"] (ad "graph_of") (fo "graph_of")
  f_column_graph : Fd T 29 "column_graph" ["pattern"] (ad "column_graph") (fo "column_graph")
  f_neighbours : Fd T 30 "neighbours" ["graph"] (ad "neighbours") (fo "neighbours")
  f_is_symmetric : Fd T 31 "is_symmetric" ["matrix"] (ad "is_symmetric") (fo "is_symmetric")
  t_is_symmetric : GxR.TabB T.base T.mg (ct "is_symmetric").1 (ct "is_symmetric").2 ∧ (fo "is_symmetric").code = .ref (ct "is_symmetric").1 ∧ (ct "is_symmetric").2 ∈ T.cs.map (·.2)
  f__law_draws : Fd T 33 "_law_draws" ["script"] (ad "_law_draws") (fo "_law_draws")
  f__law_take : Fd T 34 "_law_take" ["draws", "bound"] (ad "_law_take") (fo "_law_take")
  f__law_alike : Fd T 35 "_law_alike" ["found", "due"] (ad "_law_alike") (fo "_law_alike")
  f__law_says : Fd T 36 "_law_says" ["told", "due"] (ad "_law_says") (fo "_law_says")
  f__law_made : Fd T 37 "_law_made" ["part", "whole"] (ad "_law_made") (fo "_law_made")
  f__law_plus : Fd T 38 "_law_plus" ["one", "other"] (ad "_law_plus") (fo "_law_plus")
  f__law_system : Fd T 39 "_law_system" ["draws", "rows", "columns", "many"] (ad "_law_system") (fo "_law_system")
  f_law : Fd T 40 "law" ["script"] (ad "law") (fo "law")
section
variable {T : TP} {ad : Str → Addr} {fo : Str → FuncData} {ct : Str → Addr × Addr}
/-- is_number -/
def N_is_number : List Str := ["value", "least", "most"]
noncomputable def g_is_number : Sn := fun ρ => sE (.bnd (.bnd (.bnd (.bnd (getV ρ 0) fun d => .bnd (.bnd (.ret (.ty "int")) fun d => .bnd (.ret []) fun ds => .ret (d :: ds)) fun ds => .ret (d :: ds)) (arg2 isiD)) boolD) fun z => cond z (.bnd (.bnd (.bnd (.bnd (.bnd (.bnd (getV ρ 0) fun d => .bnd (.bnd (.ret (.ty "bool")) fun d => .bnd (.ret []) fun ds => .ret (d :: ds)) fun ds => .ret (d :: ds)) (arg2 isiD)) boolD) fun z => .ret (.bl (!z))) boolD) fun z => cond z (.bnd (getV ρ 1) fun a => .bnd (getV ρ 0) fun b => .bnd (.bnd (leD a b) boolD) fun z => cond z (.bnd (getV ρ 2) fun c => leD b c) (.ret (.bl false))) (.ret (.bl false))) (.ret (.bl false))) ρ fun d M => some (.ret d, M)
theorem s_is_number : FnScope N_is_number ["value", "least", "most"] (defScope (top 6)) := ⟨by kernel_rfl, by kernel_rfl, by kernel_rfl, nd_of (by kernel_rfl), by kernel_rfl, par_ok (by kernel_rfl), nofree_ok (by kernel_rfl)⟩
noncomputable def m_is_number : List D → Mo D := fnD N_is_number g_is_number
theorem b_is_number (G : Gl T ad fo ct) {k : Nat} (hk : 0 ≤ k) (Wx : WX) : BX (T.sc N_is_number (defScope (top 6)) k Wx (fo "is_number").code) (defBody (top 6)) g_is_number := by
  have nd : (T.sc N_is_number (defScope (top 6)) k Wx (fo "is_number").code).N.Nodup := s_is_number.nd
  unfold g_is_number
  exact bx_one (sx_ret (ex_and (ex_callB cx_isi rfl G.n_isinstance rfl (ax_cons (ex_var 0) (ax_cons (ex_ty rfl G.n_int rfl) (ax_nil)))) (ex_and (ex_not (ex_callB cx_isi rfl G.n_isinstance rfl (ax_cons (ex_var 0) (ax_cons (ex_ty rfl G.n_bool rfl) (ax_nil))))) (ex_one (ex_chain ox_le ox_le (ex_var 1) (ex_var 0) (ex_var 2))))))
theorem h_is_number (G : Gl T ad fo ct) : FnD T 1 (ad "is_number") (fo "is_number") ["value", "least", "most"] m_is_number := fnd_of G.f_is_number.1 s_is_number fun Wx => b_is_number G (Nat.le_refl _) Wx
/-- is_exact -/
def N_is_exact : List Str := ["value", "part", "whole", "one"]
noncomputable def l1_is_exact : Sn := sIf (fun ρ => .bnd (.bnd (.bnd (.bnd (.bnd (getV ρ 3) fun d => .bnd (.bnd (.ret (.ty "int")) fun d => .bnd (.ret []) fun ds => .ret (d :: ds)) fun ds => .ret (d :: ds)) (arg2 isiD)) boolD) fun b => .ret (!b)) fun z => cond z (.ret true) (.bnd (.bnd (.bnd (getV ρ 3) fun d => .bnd (.bnd (.ret (.ty "bool")) fun d => .bnd (.ret []) fun ds => .ret (d :: ds)) fun ds => .ret (d :: ds)) (arg2 isiD)) boolD))
      (fun ρ => sE (.ret (.bl false)) ρ fun d M => some (.ret d, M))
      (sNext)
noncomputable def g_is_exact : Sn := sSeq (sIf (fun ρ => .bnd (.bnd (.bnd (.bnd (.bnd (getV ρ 0) fun d => .bnd (.bnd (.ret (.ty "tuple")) fun d => .bnd (.ret []) fun ds => .ret (d :: ds)) fun ds => .ret (d :: ds)) (arg2 isiD)) boolD) fun b => .ret (!b)) fun z => cond z (.ret true) (.bnd (.bnd (.bnd (.bnd (getV ρ 0) fun d => .bnd (.ret []) fun ds => .ret (d :: ds)) (arg1 lenD)) fun a => .bnd (.ret (.int 2)) fun b => neD a b) boolD))
      (fun ρ => sE (.ret (.bl false)) ρ fun d M => some (.ret d, M))
      (sNext))
      (sSeq (fun ρ => sE (getV ρ 0) ρ fun d => s0 ((fun d ρ => .bnd (itemsT 2 d) fun ds => (gConsD (fun d ρ => .ret (ρ.set 1 (some d))) (gConsD (fun d ρ => .ret (ρ.set 2 (some d))) gNilD)) ds ρ) d ρ))
      (sSeq (sFor (fun ρ => .bnd (getV ρ 0) itD) (fun d ρ => .ret (ρ.set 3 (some d))) l1_is_exact)
      (fun ρ => sE (.bnd (.bnd (.bnd (getV ρ 2) fun a => .bnd (.ret (.int 1)) fun b => geD a b) boolD) fun z => cond z (.bnd (.bnd (.bnd (getV ρ 1) fun d => .bnd (.bnd (getV ρ 2) fun d => .bnd (.ret []) fun ds => .ret (d :: ds)) fun ds => .ret (d :: ds)) (arg2 gcdD)) fun a => .bnd (.ret (.int 1)) fun b => eqD a b) (.ret (.bl false))) ρ fun d M => some (.ret d, M))))
theorem s_is_exact : FnScope N_is_exact ["value"] (defScope (top 9)) := ⟨by kernel_rfl, by kernel_rfl, by kernel_rfl, nd_of (by kernel_rfl), by kernel_rfl, par_ok (by kernel_rfl), nofree_ok (by kernel_rfl)⟩
noncomputable def m_is_exact : List D → Mo D := fnD N_is_exact g_is_exact
theorem b_is_exact (G : Gl T ad fo ct) {k : Nat} (hk : 0 ≤ k) (Wx : WX) : BX (T.sc N_is_exact (defScope (top 9)) k Wx (fo "is_exact").code) (defBody (top 9)) g_is_exact := by
  have nd : (T.sc N_is_exact (defScope (top 9)) k Wx (fo "is_exact").code).N.Nodup := s_is_exact.nd
  unfold g_is_exact l1_is_exact
  exact bx_cons (sx_if (tx_w (wx_or (tx_not (tx_bool (ex_callB cx_isi rfl G.n_isinstance rfl (ax_cons (ex_var 0) (ax_cons (ex_ty rfl G.n_tuple rfl) (ax_nil)))))) (wx_or1 (tx_cmp ox_ne (ex_callB cx_len rfl G.n_len rfl (ax_cons (ex_var 0) (ax_nil))) (ex_int)))))
      (bx_one (sx_ret (ex_bl)))
      (bx_nil))
      (bx_cons (sx_asg (ex_var 0) (gx_tup (n := 2) (gxs_cons (gx_name 1 nd) (gxs_cons (gx_name 2 nd) (gxs_nil)))))
      (bx_cons (sx_for rfl (ix_all (ex_var 0)) (gx_name 3 nd)
      (bx_one (sx_if (tx_w (wx_or (tx_not (tx_bool (ex_callB cx_isi rfl G.n_isinstance rfl (ax_cons (ex_var 3) (ax_cons (ex_ty rfl G.n_int rfl) (ax_nil)))))) (wx_or1 (tx_bool (ex_callB cx_isi rfl G.n_isinstance rfl (ax_cons (ex_var 3) (ax_cons (ex_ty rfl G.n_bool rfl) (ax_nil))))))))
      (bx_one (sx_ret (ex_bl)))
      (bx_nil))))
      (bx_one (sx_ret (ex_and (ex_cmp ox_ge (ex_var 2) (ex_int)) (ex_one (ex_cmp ox_eq (ex_callF cx_gcd rfl G.c_gcd (ax_cons (ex_var 1) (ax_cons (ex_var 2) (ax_nil)))) (ex_int))))))))
theorem h_is_exact (G : Gl T ad fo ct) : FnD T 1 (ad "is_exact") (fo "is_exact") ["value"] m_is_exact := fnd_of G.f_is_exact.1 s_is_exact fun Wx => b_is_exact G (Nat.le_refl _) Wx
/-- is_fraction -/
def N_is_fraction : List Str := ["value"]
noncomputable def g_is_fraction : Sn := fun ρ => sE (.bnd (.bnd (.bnd (.bnd (getV ρ 0) fun d => .bnd (.ret []) fun ds => .ret (d :: ds)) (m_is_exact)) boolD) fun z => cond z (.bnd (.bnd (.bnd (.bnd (.ret (.int (10 ^ 128))) fun a => negD a) fun a => .bnd (.bnd (getV ρ 0) fun a => .bnd (.ret (.int 0)) fun b => subD' a b) fun b => .bnd (.bnd (leD a b) boolD) fun z => cond z (.bnd (.ret (.int (10 ^ 128))) fun c => leD b c) (.ret (.bl false))) boolD) fun z => cond z (.bnd (.bnd (getV ρ 0) fun a => .bnd (.ret (.int 1)) fun b => subD' a b) fun a => .bnd (.ret (.int (10 ^ 128))) fun b => leD a b) (.ret (.bl false))) (.ret (.bl false))) ρ fun d M => some (.ret d, M)
theorem s_is_fraction : FnScope N_is_fraction ["value"] (defScope (top 10)) := ⟨by kernel_rfl, by kernel_rfl, by kernel_rfl, nd_of (by kernel_rfl), by kernel_rfl, par_ok (by kernel_rfl), nofree_ok (by kernel_rfl)⟩
noncomputable def m_is_fraction : List D → Mo D := fnD N_is_fraction g_is_fraction
theorem b_is_fraction (G : Gl T ad fo ct) {k : Nat} (hk : 1 ≤ k) (Wx : WX) : BX (T.sc N_is_fraction (defScope (top 10)) k Wx (fo "is_fraction").code) (defBody (top 10)) g_is_fraction := by
  have nd : (T.sc N_is_fraction (defScope (top 10)) k Wx (fo "is_fraction").code).N.Nodup := s_is_fraction.nd
  have H_is_exact := h_is_exact (T := T) G
  unfold g_is_fraction
  exact bx_one (sx_ret (ex_and (ex_call H_is_exact (show 1 ≤ k by omega) rfl G.f_is_exact.2.1 G.f_is_exact.2.2.1 G.f_is_exact.2.2.2 (ax_cons (ex_var 0) (ax_nil)) (fun _ _ _ _ h => len_cons (n := 0) ln0 _ _ _ h)) (ex_and (ex_chain ox_le ox_le (ex_un ux_neg (ex_glob (v := .int _) rfl G.c_LIMIT.choose_spec ⟨_, rfl⟩ (fun _ => .int _))) (ex_sub (ex_var 0) (ex_int)) (ex_glob (v := .int _) rfl G.c_LIMIT.choose_spec ⟨_, rfl⟩ (fun _ => .int _))) (ex_one (ex_cmp ox_le (ex_sub (ex_var 0) (ex_int)) (ex_glob (v := .int _) rfl G.c_LIMIT.choose_spec ⟨_, rfl⟩ (fun _ => .int _)))))))
theorem h_is_fraction (G : Gl T ad fo ct) : FnD T 2 (ad "is_fraction") (fo "is_fraction") ["value"] m_is_fraction := fnd_of G.f_is_fraction.1 s_is_fraction fun Wx => b_is_fraction G (Nat.le_refl _) Wx
/-- lowest -/
def N_lowest : List Str := ["part", "whole", "common"]
noncomputable def g_lowest : Sn := sSeq (fun ρ => sE (.bnd (.bnd (getV ρ 0) fun d => .bnd (.bnd (getV ρ 1) fun d => .bnd (.ret []) fun ds => .ret (d :: ds)) fun ds => .ret (d :: ds)) (arg2 gcdD)) ρ fun d M => some (.nx (ρ.set 2 (some d)), M))
      (sSeq (sIf (fun ρ => .bnd (.bnd (getV ρ 1) fun a => .bnd (.ret (.int 0)) fun b => ltD a b) boolD)
      (fun ρ => sE (.bnd (getV ρ 2) fun a => negD a) ρ fun d M => some (.nx (ρ.set 2 (some d)), M))
      (sNext))
      (fun ρ => sE (.bnd (.bnd (.bnd (getV ρ 0) fun a => .bnd (getV ρ 2) fun b => fdivD a b) fun d => .bnd (.bnd (.bnd (getV ρ 1) fun a => .bnd (getV ρ 2) fun b => fdivD a b) fun d => .bnd (.ret []) fun ds => .ret (d :: ds)) fun ds => .ret (d :: ds)) tupD) ρ fun d M => some (.ret d, M)))
theorem s_lowest : FnScope N_lowest ["part", "whole"] (defScope (top 11)) := ⟨by kernel_rfl, by kernel_rfl, by kernel_rfl, nd_of (by kernel_rfl), by kernel_rfl, par_ok (by kernel_rfl), nofree_ok (by kernel_rfl)⟩
noncomputable def m_lowest : List D → Mo D := fnD N_lowest g_lowest
theorem b_lowest (G : Gl T ad fo ct) {k : Nat} (hk : 0 ≤ k) (Wx : WX) : BX (T.sc N_lowest (defScope (top 11)) k Wx (fo "lowest").code) (defBody (top 11)) g_lowest := by
  have nd : (T.sc N_lowest (defScope (top 11)) k Wx (fo "lowest").code).N.Nodup := s_lowest.nd
  unfold g_lowest
  exact bx_cons (sx_set 2 nd (ex_callF cx_gcd rfl G.c_gcd (ax_cons (ex_var 0) (ax_cons (ex_var 1) (ax_nil)))))
      (bx_cons (sx_if (tx_cmp ox_lt (ex_var 1) (ex_int))
      (bx_one (sx_set 2 nd (ex_un ux_neg (ex_var 2))))
      (bx_nil))
      (bx_one (sx_ret (ex_tup (ax_cons (ex_op ox_fdiv (ex_var 0) (ex_var 2)) (ax_cons (ex_op ox_fdiv (ex_var 1) (ex_var 2)) (ax_nil)))))))
theorem h_lowest (G : Gl T ad fo ct) : FnD T 1 (ad "lowest") (fo "lowest") ["part", "whole"] m_lowest := fnd_of G.f_lowest.1 s_lowest fun Wx => b_lowest G (Nat.le_refl _) Wx
/-- plus -/
def N_plus : List Str := ["one", "other"]
noncomputable def g_plus : Sn := fun ρ => sE (.bnd (.bnd (.bnd (.bnd (.bnd (getV ρ 0) fun a => .bnd (.ret (.int 0)) fun b => subD' a b) fun a => .bnd (.bnd (getV ρ 1) fun a => .bnd (.ret (.int 1)) fun b => subD' a b) fun b => mulD a b) fun a => .bnd (.bnd (.bnd (getV ρ 1) fun a => .bnd (.ret (.int 0)) fun b => subD' a b) fun a => .bnd (.bnd (getV ρ 0) fun a => .bnd (.ret (.int 1)) fun b => subD' a b) fun b => mulD a b) fun b => addD a b) fun d => .bnd (.bnd (.bnd (.bnd (getV ρ 0) fun a => .bnd (.ret (.int 1)) fun b => subD' a b) fun a => .bnd (.bnd (getV ρ 1) fun a => .bnd (.ret (.int 1)) fun b => subD' a b) fun b => mulD a b) fun d => .bnd (.ret []) fun ds => .ret (d :: ds)) fun ds => .ret (d :: ds)) (m_lowest)) ρ fun d M => some (.ret d, M)
theorem s_plus : FnScope N_plus ["one", "other"] (defScope (top 12)) := ⟨by kernel_rfl, by kernel_rfl, by kernel_rfl, nd_of (by kernel_rfl), by kernel_rfl, par_ok (by kernel_rfl), nofree_ok (by kernel_rfl)⟩
noncomputable def m_plus : List D → Mo D := fnD N_plus g_plus
theorem b_plus (G : Gl T ad fo ct) {k : Nat} (hk : 1 ≤ k) (Wx : WX) : BX (T.sc N_plus (defScope (top 12)) k Wx (fo "plus").code) (defBody (top 12)) g_plus := by
  have nd : (T.sc N_plus (defScope (top 12)) k Wx (fo "plus").code).N.Nodup := s_plus.nd
  have H_lowest := h_lowest (T := T) G
  unfold g_plus
  exact bx_one (sx_ret (ex_call H_lowest (show 1 ≤ k by omega) rfl G.f_lowest.2.1 G.f_lowest.2.2.1 G.f_lowest.2.2.2 (ax_cons (ex_op ox_add (ex_op ox_mul (ex_sub (ex_var 0) (ex_int)) (ex_sub (ex_var 1) (ex_int))) (ex_op ox_mul (ex_sub (ex_var 1) (ex_int)) (ex_sub (ex_var 0) (ex_int)))) (ax_cons (ex_op ox_mul (ex_sub (ex_var 0) (ex_int)) (ex_sub (ex_var 1) (ex_int))) (ax_nil))) (fun _ _ _ _ h => len_cons (n := 1) (len_cons (n := 0) ln0) _ _ _ h)))
theorem h_plus (G : Gl T ad fo ct) : FnD T 2 (ad "plus") (fo "plus") ["one", "other"] m_plus := fnd_of G.f_plus.1 s_plus fun Wx => b_plus G (Nat.le_refl _) Wx
/-- checked -/
def N_checked : List Str := ["value"]
noncomputable def g_checked : Sn := sSeq (sIf (fun ρ => .bnd (.bnd (.bnd (.bnd (getV ρ 0) fun d => .bnd (.ret []) fun ds => .ret (d :: ds)) (m_is_fraction)) boolD) fun b => .ret (!b))
      (fun ρ M => some (.exc "TooMuch" ρ, M))
      (sNext))
      (fun ρ => sE (getV ρ 0) ρ fun d M => some (.ret d, M))
theorem s_checked : FnScope N_checked ["value"] (defScope (top 15)) := ⟨by kernel_rfl, by kernel_rfl, by kernel_rfl, nd_of (by kernel_rfl), by kernel_rfl, par_ok (by kernel_rfl), nofree_ok (by kernel_rfl)⟩
noncomputable def m_checked : List D → Mo D := fnD N_checked g_checked
theorem b_checked (G : Gl T ad fo ct) {k : Nat} (hk : 2 ≤ k) (Wx : WX) : BX (T.sc N_checked (defScope (top 15)) k Wx (fo "checked").code) (defBody (top 15)) g_checked := by
  have nd : (T.sc N_checked (defScope (top 15)) k Wx (fo "checked").code).N.Nodup := s_checked.nd
  have H_is_fraction := h_is_fraction (T := T) G
  unfold g_checked
  exact bx_cons (sx_if (tx_not (tx_bool (ex_call H_is_fraction (show 2 ≤ k by omega) rfl G.f_is_fraction.2.1 G.f_is_fraction.2.2.1 G.f_is_fraction.2.2.2 (ax_cons (ex_var 0) (ax_nil)) (fun _ _ _ _ h => len_cons (n := 0) ln0 _ _ _ h))))
      (bx_one (sx_raise G.x_TooMuch.1 G.x_TooMuch.2 rfl))
      (bx_nil))
      (bx_one (sx_ret (ex_var 0)))
theorem h_checked (G : Gl T ad fo ct) : FnD T 3 (ad "checked") (fo "checked") ["value"] m_checked := fnd_of G.f_checked.1 s_checked fun Wx => b_checked G (Nat.le_refl _) Wx
/-- from_dict -/
def N_from_dict : List Str := ["rows", "columns", "table", "row", "column", "found"]
noncomputable def g_from_dict : Sn := sSeq (fun ρ => sE (.bnd (.bnd (.bnd (.bnd (getV ρ 2) fun d => .bnd (.ret []) fun ds => .ret (d :: ds)) (arg1 (sortedD false))) itD) fun it => cmpD false stL [] .lst .lst (compL it.gd (turn1 (wipeR ρ [3, 4]) (fun d ρ => .bnd (itemsT 2 d) fun ds => (gConsD (fun d ρ => .ret (ρ.set 3 (some d))) (gConsD (fun d ρ => .ret (ρ.set 4 (some d))) gNilD)) ds ρ) (fun ρ => .bnd (.bnd (.bnd (getV ρ 2) fun a => .bnd (.bnd (.bnd (getV ρ 3) fun d => .bnd (.bnd (getV ρ 4) fun d => .bnd (.ret []) fun ds => .ret (d :: ds)) fun ds => .ret (d :: ds)) tupD) fun b => subD' a b) fun a => .bnd (.ret (.tup [.int 0, .int 1])) fun b => neD a b) boolD) (one' fun ρ => .bnd (.bnd (getV ρ 3) fun d => .bnd (.bnd (getV ρ 4) fun d => .bnd (.bnd (.bnd (getV ρ 2) fun a => .bnd (.bnd (.bnd (getV ρ 3) fun d => .bnd (.bnd (getV ρ 4) fun d => .bnd (.ret []) fun ds => .ret (d :: ds)) fun ds => .ret (d :: ds)) tupD) fun b => subD' a b) fun d => .bnd (.ret []) fun ds => .ret (d :: ds)) fun ds => .ret (d :: ds)) fun ds => .ret (d :: ds)) tupD)) it.items)) ρ fun d M => some (.nx (ρ.set 5 (some d)), M))
      (sSeq (sIf (fun ρ => .bnd (.bnd (.bnd (.bnd (getV ρ 5) fun d => .bnd (.ret []) fun ds => .ret (d :: ds)) (arg1 lenD)) fun a => .bnd (.ret (.int (900))) fun b => gtD a b) boolD)
      (fun ρ M => some (.exc "Malformed" ρ, M))
      (sNext))
      (fun ρ => sE (.bnd (.bnd (getV ρ 0) fun d => .bnd (.bnd (getV ρ 1) fun d => .bnd (.bnd (.bnd (.bnd (getV ρ 5) fun d => .bnd (.ret []) fun ds => .ret (d :: ds)) (arg1 tupleD)) fun d => .bnd (.ret []) fun ds => .ret (d :: ds)) fun ds => .ret (d :: ds)) fun ds => .ret (d :: ds)) tupD) ρ fun d M => some (.ret d, M)))
theorem s_from_dict : FnScope N_from_dict ["rows", "columns", "table"] (defScope (top 19)) := ⟨by kernel_rfl, by kernel_rfl, by kernel_rfl, nd_of (by kernel_rfl), by kernel_rfl, par_ok (by kernel_rfl), nofree_ok (by kernel_rfl)⟩
noncomputable def m_from_dict : List D → Mo D := fnD N_from_dict g_from_dict
theorem b_from_dict (G : Gl T ad fo ct) {k : Nat} (hk : 0 ≤ k) (Wx : WX) : BX (T.sc N_from_dict (defScope (top 19)) k Wx (fo "from_dict").code) (defBody (top 19)) g_from_dict := by
  have nd : (T.sc N_from_dict (defScope (top 19)) k Wx (fo "from_dict").code).N.Nodup := s_from_dict.nd
  unfold g_from_dict
  exact bx_cons (sx_setC 5 (lx_l1 false [("row", 3), ("column", 4)]  nd (blk_ok (by kernel_rfl))  (ix_all (ex_callB (cx_sorted false) rfl G.n_sorted rfl (ax_cons (ex_var 2) (ax_nil)))) (gv_tup (n := 2) (gvs_cons (gv_name 3 nd) (gvs_cons (gv_name 4 nd) (gvs_nil)))) (txs_one (tx_cmp ox_ne (ex_sub (ex_var 2) (ex_tup (ax_cons (ex_var 3) (ax_cons (ex_var 4) (ax_nil))))) (ex_glob (v := .ref _) rfl G.c_NOUGHT.choose_spec.1 rfl (fun W => .tup (G.c_NOUGHT.choose_spec.2 W.H) (.cons (.int 0) (.cons (.int 1) .nil))))))  (ex_tup (ax_cons (ex_var 3) (ax_cons (ex_var 4) (ax_cons (ex_sub (ex_var 2) (ex_tup (ax_cons (ex_var 3) (ax_cons (ex_var 4) (ax_nil))))) (ax_nil)))))) (hs := fun X c => sw_lc c rfl rfl (by kernel_rfl)))
      (bx_cons (sx_if (tx_cmp ox_gt (ex_callB cx_len rfl G.n_len rfl (ax_cons (ex_var 5) (ax_nil))) (ex_glob (v := .int _) rfl G.c_MOST_ENTRIES.choose_spec ⟨_, rfl⟩ (fun _ => .int _)))
      (bx_one (sx_raise G.x_Malformed.1 G.x_Malformed.2 rfl))
      (bx_nil))
      (bx_one (sx_ret (ex_tup (ax_cons (ex_var 0) (ax_cons (ex_var 1) (ax_cons (ex_callTy cx_tuple rfl G.n_tuple rfl (ax_cons (ex_var 5) (ax_nil))) (ax_nil))))))))
theorem h_from_dict (G : Gl T ad fo ct) : FnD T 1 (ad "from_dict") (fo "from_dict") ["rows", "columns", "table"] m_from_dict := fnd_of G.f_from_dict.1 s_from_dict fun Wx => b_from_dict G (Nat.le_refl _) Wx
/-- table_of -/
def N_table_of : List Str := ["matrix", "row", "column", "value"]
noncomputable def g_table_of : Sn := fun ρ => sE (.bnd (.bnd (.bnd (getV ρ 0) fun a => .bnd (.ret (.int 2)) fun b => subD' a b) itD) fun it => cmpD true (stD true) [] (.dct true) (.dct true) (compL it.gd (turn1 (wipeR ρ [1, 2, 3]) (fun d ρ => .bnd (itemsT 3 d) fun ds => (gConsD (fun d ρ => .ret (ρ.set 1 (some d))) (gConsD (fun d ρ => .ret (ρ.set 2 (some d))) (gConsD (fun d ρ => .ret (ρ.set 3 (some d))) gNilD))) ds ρ) (fun _ => .ret true) (two' (fun ρ => .bnd (.bnd (getV ρ 1) fun d => .bnd (.bnd (getV ρ 2) fun d => .bnd (.ret []) fun ds => .ret (d :: ds)) fun ds => .ret (d :: ds)) tupD) (fun ρ => getV ρ 3))) it.items)) ρ fun d M => some (.ret d, M)
theorem s_table_of : FnScope N_table_of ["matrix"] (defScope (top 20)) := ⟨by kernel_rfl, by kernel_rfl, by kernel_rfl, nd_of (by kernel_rfl), by kernel_rfl, par_ok (by kernel_rfl), nofree_ok (by kernel_rfl)⟩
noncomputable def m_table_of : List D → Mo D := fnO N_table_of g_table_of
theorem b_table_of (G : Gl T ad fo ct) {k : Nat} (hk : 0 ≤ k) (Wx : WX) : BX (T.sc N_table_of (defScope (top 20)) k Wx (fo "table_of").code) (defBody (top 20)) g_table_of := by
  have nd : (T.sc N_table_of (defScope (top 20)) k Wx (fo "table_of").code).N.Nodup := s_table_of.nd
  unfold g_table_of
  exact bx_one (sx_ret (ex_lx (lx_d1 true true [("row", 1), ("column", 2), ("value", 3)]  nd (blk_ok (by kernel_rfl))  (ix_all (ex_sub (ex_var 0) (ex_int))) (gv_tup (n := 3) (gvs_cons (gv_name 1 nd) (gvs_cons (gv_name 2 nd) (gvs_cons (gv_name 3 nd) (gvs_nil))))) (txs_nil)  (ex_tup (ax_cons (ex_var 1) (ax_cons (ex_var 2) (ax_nil)))) (ex_var 3))))
theorem h_table_of (G : Gl T ad fo ct) : FnD T 1 (ad "table_of") (fo "table_of") ["matrix"] m_table_of := fno_of G.f_table_of.1 s_table_of fun Wx => b_table_of G (Nat.le_refl _) Wx
/-- transposed -/
def N_transposed : List Str := ["matrix", "row", "column", "value"]
noncomputable def g_transposed : Sn := fun ρ => sE (.bnd (.bnd (.bnd (getV ρ 0) fun a => .bnd (.ret (.int 1)) fun b => subD' a b) fun d => .bnd (.bnd (.bnd (getV ρ 0) fun a => .bnd (.ret (.int 0)) fun b => subD' a b) fun d => .bnd (.bnd (.bnd (.bnd (.bnd (getV ρ 0) fun a => .bnd (.ret (.int 2)) fun b => subD' a b) itD) fun it => cmpD false (stD true) [] (.dct true) (.dct true) (compL it.gd (turn1 (wipeR ρ [1, 2, 3]) (fun d ρ => .bnd (itemsT 3 d) fun ds => (gConsD (fun d ρ => .ret (ρ.set 1 (some d))) (gConsD (fun d ρ => .ret (ρ.set 2 (some d))) (gConsD (fun d ρ => .ret (ρ.set 3 (some d))) gNilD))) ds ρ) (fun _ => .ret true) (two' (fun ρ => .bnd (.bnd (getV ρ 2) fun d => .bnd (.bnd (getV ρ 1) fun d => .bnd (.ret []) fun ds => .ret (d :: ds)) fun ds => .ret (d :: ds)) tupD) (fun ρ => getV ρ 3))) it.items)) fun d => .bnd (.ret []) fun ds => .ret (d :: ds)) fun ds => .ret (d :: ds)) fun ds => .ret (d :: ds)) (m_from_dict)) ρ fun d M => some (.ret d, M)
theorem s_transposed : FnScope N_transposed ["matrix"] (defScope (top 21)) := ⟨by kernel_rfl, by kernel_rfl, by kernel_rfl, nd_of (by kernel_rfl), by kernel_rfl, par_ok (by kernel_rfl), nofree_ok (by kernel_rfl)⟩
noncomputable def m_transposed : List D → Mo D := fnD N_transposed g_transposed
theorem b_transposed (G : Gl T ad fo ct) {k : Nat} (hk : 1 ≤ k) (Wx : WX) : BX (T.sc N_transposed (defScope (top 21)) k Wx (fo "transposed").code) (defBody (top 21)) g_transposed := by
  have nd : (T.sc N_transposed (defScope (top 21)) k Wx (fo "transposed").code).N.Nodup := s_transposed.nd
  have H_from_dict := h_from_dict (T := T) G
  unfold g_transposed
  exact bx_one (sx_ret (ex_call H_from_dict (show 1 ≤ k by omega) rfl G.f_from_dict.2.1 G.f_from_dict.2.2.1 G.f_from_dict.2.2.2 (ax_cons (ex_sub (ex_var 0) (ex_int)) (ax_cons (ex_sub (ex_var 0) (ex_int)) (ax_cons (ex_lx (lx_d1 false true [("row", 1), ("column", 2), ("value", 3)]  nd (blk_ok (by kernel_rfl))  (ix_all (ex_sub (ex_var 0) (ex_int))) (gv_tup (n := 3) (gvs_cons (gv_name 1 nd) (gvs_cons (gv_name 2 nd) (gvs_cons (gv_name 3 nd) (gvs_nil))))) (txs_nil)  (ex_tup (ax_cons (ex_var 2) (ax_cons (ex_var 1) (ax_nil)))) (ex_var 3))) (ax_nil)))) (fun _ _ _ _ h => len_cons (n := 2) (len_cons (n := 1) (len_cons (n := 0) ln0)) _ _ _ h)))
theorem h_transposed (G : Gl T ad fo ct) : FnD T 2 (ad "transposed") (fo "transposed") ["matrix"] m_transposed := fnd_of G.f_transposed.1 s_transposed fun Wx => b_transposed G (Nat.le_refl _) Wx
/-- added -/
def N_added : List Str := ["one", "other", "found", "row", "column", "value"]
noncomputable def l1_added : Sn := fun ρ => sE (.bnd (.bnd (.bnd (.bnd (.bnd (getV ρ 2) fun a => chkM isDc a (.bnd (.bnd (.bnd (.bnd (getV ρ 3) fun d => .bnd (.bnd (getV ρ 4) fun d => .bnd (.ret []) fun ds => .ret (d :: ds)) fun ds => .ret (d :: ds)) tupD) fun d => .bnd (.bnd (.ret (.tup [.int 0, .int 1])) fun d => .bnd (.ret []) fun ds => .ret (d :: ds)) fun ds => .ret (d :: ds)) fun ds => getD' a ds)) fun d => .bnd (.bnd (getV ρ 5) fun d => .bnd (.ret []) fun ds => .ret (d :: ds)) fun ds => .ret (d :: ds)) (m_plus)) fun d => .bnd (.ret []) fun ds => .ret (d :: ds)) (m_checked)) ρ fun d => s0 (.bnd (getV ρ 2) fun a => .bnd (.bnd (.bnd (getV ρ 3) fun d => .bnd (.bnd (getV ρ 4) fun d => .bnd (.ret []) fun ds => .ret (d :: ds)) fun ds => .ret (d :: ds)) tupD) fun b => storeM a b d ρ)
noncomputable def g_added : Sn := sSeq (fun ρ => sE (.bnd (.bnd (getV ρ 0) fun d => .bnd (.ret []) fun ds => .ret (d :: ds)) (m_table_of)) ρ fun d M => some (.nx (ρ.set 2 (some d)), M))
      (sSeq (sFor (fun ρ => .bnd (.bnd (getV ρ 1) fun a => .bnd (.ret (.int 2)) fun b => subD' a b) itD) (fun d ρ => .bnd (itemsT 3 d) fun ds => (gConsD (fun d ρ => .ret (ρ.set 3 (some d))) (gConsD (fun d ρ => .ret (ρ.set 4 (some d))) (gConsD (fun d ρ => .ret (ρ.set 5 (some d))) gNilD))) ds ρ) l1_added)
      (fun ρ => sE (.bnd (.bnd (.bnd (getV ρ 0) fun a => .bnd (.ret (.int 0)) fun b => subD' a b) fun d => .bnd (.bnd (.bnd (getV ρ 0) fun a => .bnd (.ret (.int 1)) fun b => subD' a b) fun d => .bnd (.bnd (getV ρ 2) fun d => .bnd (.ret []) fun ds => .ret (d :: ds)) fun ds => .ret (d :: ds)) fun ds => .ret (d :: ds)) (m_from_dict)) ρ fun d M => some (.ret d, M)))
theorem s_added : FnScope N_added ["one", "other"] (defScope (top 22)) := ⟨by kernel_rfl, by kernel_rfl, by kernel_rfl, nd_of (by kernel_rfl), by kernel_rfl, par_ok (by kernel_rfl), nofree_ok (by kernel_rfl)⟩
noncomputable def m_added : List D → Mo D := fnD N_added g_added
theorem b_added (G : Gl T ad fo ct) {k : Nat} (hk : 3 ≤ k) (Wx : WX) : BX (T.sc N_added (defScope (top 22)) k Wx (fo "added").code) (defBody (top 22)) g_added := by
  have nd : (T.sc N_added (defScope (top 22)) k Wx (fo "added").code).N.Nodup := s_added.nd
  have H_checked := h_checked (T := T) G
  have H_from_dict := h_from_dict (T := T) G
  have H_plus := h_plus (T := T) G
  have H_table_of := h_table_of (T := T) G
  unfold g_added l1_added
  exact bx_cons (sx_set 2 nd (ex_call H_table_of (show 1 ≤ k by omega) rfl G.f_table_of.2.1 G.f_table_of.2.2.1 G.f_table_of.2.2.2 (ax_cons (ex_var 0) (ax_nil)) (fun _ _ _ _ h => len_cons (n := 0) ln0 _ _ _ h)))
      (bx_cons (sx_for rfl (ix_all (ex_sub (ex_var 1) (ex_int))) (gx_tup (n := 3) (gxs_cons (gx_name 3 nd) (gxs_cons (gx_name 4 nd) (gxs_cons (gx_name 5 nd) (gxs_nil)))))
      (bx_one (sx_asg (ex_call H_checked (show 3 ≤ k by omega) rfl G.f_checked.2.1 G.f_checked.2.2.1 G.f_checked.2.2.2 (ax_cons (ex_call H_plus (show 2 ≤ k by omega) rfl G.f_plus.2.1 G.f_plus.2.2.1 G.f_plus.2.2.2 (ax_cons (ex_meth mx_get (ex_var 2) (ax_cons (ex_tup (ax_cons (ex_var 3) (ax_cons (ex_var 4) (ax_nil)))) (ax_cons (ex_glob (v := .ref _) rfl G.c_NOUGHT.choose_spec.1 rfl (fun W => .tup (G.c_NOUGHT.choose_spec.2 W.H) (.cons (.int 0) (.cons (.int 1) .nil)))) (ax_nil)))) (ax_cons (ex_var 5) (ax_nil))) (fun _ _ _ _ h => len_cons (n := 1) (len_cons (n := 0) ln0) _ _ _ h)) (ax_nil)) (fun _ _ _ _ h => len_cons (n := 0) ln0 _ _ _ h)) (gx_sub (ex_var 2) (ex_tup (ax_cons (ex_var 3) (ax_cons (ex_var 4) (ax_nil))))))))
      (bx_one (sx_ret (ex_call H_from_dict (show 1 ≤ k by omega) rfl G.f_from_dict.2.1 G.f_from_dict.2.2.1 G.f_from_dict.2.2.2 (ax_cons (ex_sub (ex_var 0) (ex_int)) (ax_cons (ex_sub (ex_var 0) (ex_int)) (ax_cons (ex_var 2) (ax_nil)))) (fun _ _ _ _ h => len_cons (n := 2) (len_cons (n := 1) (len_cons (n := 0) ln0)) _ _ _ h)))))
theorem h_added (G : Gl T ad fo ct) : FnD T 4 (ad "added") (fo "added") ["one", "other"] m_added := fnd_of G.f_added.1 s_added fun Wx => b_added G (Nat.le_refl _) Wx
/-- is_place -/
def N_is_place : List Str := ["rows", "columns", "value"]
noncomputable def g_is_place : Sn := sSeq (sIf (fun ρ => .bnd (.bnd (.bnd (.bnd (.bnd (getV ρ 2) fun d => .bnd (.bnd (.ret (.ty "tuple")) fun d => .bnd (.ret []) fun ds => .ret (d :: ds)) fun ds => .ret (d :: ds)) (arg2 isiD)) boolD) fun b => .ret (!b)) fun z => cond z (.ret true) (.bnd (.bnd (.bnd (.bnd (getV ρ 2) fun d => .bnd (.ret []) fun ds => .ret (d :: ds)) (arg1 lenD)) fun a => .bnd (.ret (.int 2)) fun b => neD a b) boolD))
      (fun ρ => sE (.ret (.bl false)) ρ fun d M => some (.ret d, M))
      (sNext))
      (fun ρ => sE (.bnd (.bnd (.bnd (.bnd (.bnd (getV ρ 2) fun a => .bnd (.ret (.int 0)) fun b => subD' a b) fun d => .bnd (.bnd (.ret (.int 0)) fun d => .bnd (.bnd (.bnd (getV ρ 0) fun a => .bnd (.ret (.int 1)) fun b => subD a b) fun d => .bnd (.ret []) fun ds => .ret (d :: ds)) fun ds => .ret (d :: ds)) fun ds => .ret (d :: ds)) (m_is_number)) boolD) fun z => cond z (.bnd (.bnd (.bnd (getV ρ 2) fun a => .bnd (.ret (.int 1)) fun b => subD' a b) fun d => .bnd (.bnd (.ret (.int 0)) fun d => .bnd (.bnd (.bnd (getV ρ 1) fun a => .bnd (.ret (.int 1)) fun b => subD a b) fun d => .bnd (.ret []) fun ds => .ret (d :: ds)) fun ds => .ret (d :: ds)) fun ds => .ret (d :: ds)) (m_is_number)) (.ret (.bl false))) ρ fun d M => some (.ret d, M))
theorem s_is_place : FnScope N_is_place ["rows", "columns", "value"] (defScope (top 24)) := ⟨by kernel_rfl, by kernel_rfl, by kernel_rfl, nd_of (by kernel_rfl), by kernel_rfl, par_ok (by kernel_rfl), nofree_ok (by kernel_rfl)⟩
noncomputable def m_is_place : List D → Mo D := fnD N_is_place g_is_place
theorem b_is_place (G : Gl T ad fo ct) {k : Nat} (hk : 1 ≤ k) (Wx : WX) : BX (T.sc N_is_place (defScope (top 24)) k Wx (fo "is_place").code) (defBody (top 24)) g_is_place := by
  have nd : (T.sc N_is_place (defScope (top 24)) k Wx (fo "is_place").code).N.Nodup := s_is_place.nd
  have H_is_number := h_is_number (T := T) G
  unfold g_is_place
  exact bx_cons (sx_if (tx_w (wx_or (tx_not (tx_bool (ex_callB cx_isi rfl G.n_isinstance rfl (ax_cons (ex_var 2) (ax_cons (ex_ty rfl G.n_tuple rfl) (ax_nil)))))) (wx_or1 (tx_cmp ox_ne (ex_callB cx_len rfl G.n_len rfl (ax_cons (ex_var 2) (ax_nil))) (ex_int)))))
      (bx_one (sx_ret (ex_bl)))
      (bx_nil))
      (bx_one (sx_ret (ex_and (ex_call H_is_number (show 1 ≤ k by omega) rfl G.f_is_number.2.1 G.f_is_number.2.2.1 G.f_is_number.2.2.2 (ax_cons (ex_sub (ex_var 2) (ex_int)) (ax_cons (ex_int) (ax_cons (ex_op ox_sub (ex_var 0) (ex_int)) (ax_nil)))) (fun _ _ _ _ h => len_cons (n := 2) (len_cons (n := 1) (len_cons (n := 0) ln0)) _ _ _ h)) (ex_one (ex_call H_is_number (show 1 ≤ k by omega) rfl G.f_is_number.2.1 G.f_is_number.2.2.1 G.f_is_number.2.2.2 (ax_cons (ex_sub (ex_var 2) (ex_int)) (ax_cons (ex_int) (ax_cons (ex_op ox_sub (ex_var 1) (ex_int)) (ax_nil)))) (fun _ _ _ _ h => len_cons (n := 2) (len_cons (n := 1) (len_cons (n := 0) ln0)) _ _ _ h))))))
theorem h_is_place (G : Gl T ad fo ct) : FnD T 2 (ad "is_place") (fo "is_place") ["rows", "columns", "value"] m_is_place := fnd_of G.f_is_place.1 s_is_place fun Wx => b_is_place G (Nat.le_refl _) Wx
/-- is_pattern -/
def N_is_pattern : List Str := ["value", "at", "one"]
noncomputable def g_is_pattern : Sn := sSeq (sIf (fun ρ => .bnd (.bnd (.bnd (.bnd (.bnd (getV ρ 0) fun d => .bnd (.bnd (.ret (.ty "tuple")) fun d => .bnd (.ret []) fun ds => .ret (d :: ds)) fun ds => .ret (d :: ds)) (arg2 isiD)) boolD) fun b => .ret (!b)) fun z => cond z (.ret true) (.bnd (.bnd (.bnd (.bnd (getV ρ 0) fun d => .bnd (.ret []) fun ds => .ret (d :: ds)) (arg1 lenD)) fun a => .bnd (.ret (.int 3)) fun b => neD a b) boolD))
      (fun ρ => sE (.ret (.bl false)) ρ fun d M => some (.ret d, M))
      (sNext))
      (sSeq (sIf (fun ρ => .bnd (.bnd (.bnd (.bnd (.bnd (.bnd (getV ρ 0) fun a => .bnd (.ret (.int 0)) fun b => subD' a b) fun d => .bnd (.bnd (.ret (.int 0)) fun d => .bnd (.bnd (.ret (.int (60))) fun d => .bnd (.ret []) fun ds => .ret (d :: ds)) fun ds => .ret (d :: ds)) fun ds => .ret (d :: ds)) (m_is_number)) boolD) fun b => .ret (!b)) fun z => cond z (.ret true) (.bnd (.bnd (.bnd (.bnd (.bnd (getV ρ 0) fun a => .bnd (.ret (.int 1)) fun b => subD' a b) fun d => .bnd (.bnd (.ret (.int 0)) fun d => .bnd (.bnd (.ret (.int (60))) fun d => .bnd (.ret []) fun ds => .ret (d :: ds)) fun ds => .ret (d :: ds)) fun ds => .ret (d :: ds)) (m_is_number)) boolD) fun b => .ret (!b)))
      (fun ρ => sE (.ret (.bl false)) ρ fun d M => some (.ret d, M))
      (sNext))
      (sSeq (sIf (fun ρ => .bnd (.bnd (.bnd (.bnd (.bnd (.bnd (getV ρ 0) fun a => .bnd (.ret (.int 2)) fun b => subD' a b) fun d => .bnd (.bnd (.ret (.ty "tuple")) fun d => .bnd (.ret []) fun ds => .ret (d :: ds)) fun ds => .ret (d :: ds)) (arg2 isiD)) boolD) fun b => .ret (!b)) fun z => cond z (.ret true) (.bnd (.bnd (.bnd (.bnd (.bnd (getV ρ 0) fun a => .bnd (.ret (.int 2)) fun b => subD' a b) fun d => .bnd (.ret []) fun ds => .ret (d :: ds)) (arg1 lenD)) fun a => .bnd (.ret (.int (900))) fun b => gtD a b) boolD))
      (fun ρ => sE (.ret (.bl false)) ρ fun d M => some (.ret d, M))
      (sNext))
      (sSeq (sIf (fun ρ => .bnd (.bnd (.bnd (.bnd (.bnd (getV ρ 0) fun a => .bnd (.ret (.int 2)) fun b => subD' a b) itD) fun it => genD (genL true it.gd (turnG (wipeR ρ [2]) (fun d ρ => .ret (ρ.set 2 (some d))) (fun _ => .ret true) (fun ρ => .bnd (.bnd (.bnd (getV ρ 0) fun a => .bnd (.ret (.int 0)) fun b => subD' a b) fun d => .bnd (.bnd (.bnd (getV ρ 0) fun a => .bnd (.ret (.int 1)) fun b => subD' a b) fun d => .bnd (.bnd (getV ρ 2) fun d => .bnd (.ret []) fun ds => .ret (d :: ds)) fun ds => .ret (d :: ds)) fun ds => .ret (d :: ds)) (m_is_place))) it.items)) boolD) fun b => .ret (!b))
      (fun ρ => sE (.ret (.bl false)) ρ fun d M => some (.ret d, M))
      (sNext))
      (fun ρ => sE (.bnd (.bnd (.bnd (.ret (.int 1)) fun d => .bnd (.bnd (.bnd (.bnd (.bnd (getV ρ 0) fun a => .bnd (.ret (.int 2)) fun b => subD' a b) fun d => .bnd (.ret []) fun ds => .ret (d :: ds)) (arg1 lenD)) fun d => .bnd (.ret []) fun ds => .ret (d :: ds)) fun ds => .ret (d :: ds)) rngD2) fun it => genD (genL true it.gd (turnG (wipeR ρ [1]) (fun d ρ => .ret (ρ.set 1 (some d))) (fun _ => .ret true) (fun ρ => .bnd (.bnd (.bnd (getV ρ 0) fun a => .bnd (.ret (.int 2)) fun b => subD' a b) fun a => .bnd (.bnd (getV ρ 1) fun a => .bnd (.ret (.int 1)) fun b => subD a b) fun b => subD' a b) fun a => .bnd (.bnd (.bnd (getV ρ 0) fun a => .bnd (.ret (.int 2)) fun b => subD' a b) fun a => .bnd (getV ρ 1) fun b => subD' a b) fun b => ltD a b)) it.items)) ρ fun d M => some (.ret d, M)))))
theorem s_is_pattern : FnScope N_is_pattern ["value"] (defScope (top 25)) := ⟨by kernel_rfl, by kernel_rfl, by kernel_rfl, nd_of (by kernel_rfl), by kernel_rfl, par_ok (by kernel_rfl), nofree_ok (by kernel_rfl)⟩
noncomputable def m_is_pattern : List D → Mo D := fnD N_is_pattern g_is_pattern
theorem b_is_pattern (G : Gl T ad fo ct) {k : Nat} (hk : 3 ≤ k) (Wx : WX) : BX (T.sc N_is_pattern (defScope (top 25)) k Wx (fo "is_pattern").code) (defBody (top 25)) g_is_pattern := by
  have nd : (T.sc N_is_pattern (defScope (top 25)) k Wx (fo "is_pattern").code).N.Nodup := s_is_pattern.nd
  have H_is_number := h_is_number (T := T) G
  have H_is_place := h_is_place (T := T) G
  obtain ⟨TB, hcode, hP⟩ := G.t_is_pattern
  have hk1 : 1 ≤ k := by omega
  unfold g_is_pattern
  exact bx_cons (sx_if (tx_w (wx_or (tx_not (tx_bool (ex_callB cx_isi rfl G.n_isinstance rfl (ax_cons (ex_var 0) (ax_cons (ex_ty rfl G.n_tuple rfl) (ax_nil)))))) (wx_or1 (tx_cmp ox_ne (ex_callB cx_len rfl G.n_len rfl (ax_cons (ex_var 0) (ax_nil))) (ex_int)))))
      (bx_one (sx_ret (ex_bl)))
      (bx_nil))
      (bx_cons (sx_if (tx_w (wx_or (tx_not (tx_bool (ex_call H_is_number (show 1 ≤ k by omega) rfl G.f_is_number.2.1 G.f_is_number.2.2.1 G.f_is_number.2.2.2 (ax_cons (ex_sub (ex_var 0) (ex_int)) (ax_cons (ex_int) (ax_cons (ex_glob (v := .int _) rfl G.c_MOST_SIDE.choose_spec ⟨_, rfl⟩ (fun _ => .int _)) (ax_nil)))) (fun _ _ _ _ h => len_cons (n := 2) (len_cons (n := 1) (len_cons (n := 0) ln0)) _ _ _ h)))) (wx_or1 (tx_not (tx_bool (ex_call H_is_number (show 1 ≤ k by omega) rfl G.f_is_number.2.1 G.f_is_number.2.2.1 G.f_is_number.2.2.2 (ax_cons (ex_sub (ex_var 0) (ex_int)) (ax_cons (ex_int) (ax_cons (ex_glob (v := .int _) rfl G.c_MOST_SIDE.choose_spec ⟨_, rfl⟩ (fun _ => .int _)) (ax_nil)))) (fun _ _ _ _ h => len_cons (n := 2) (len_cons (n := 1) (len_cons (n := 0) ln0)) _ _ _ h)))))))
      (bx_one (sx_ret (ex_bl)))
      (bx_nil))
      (bx_cons (sx_if (tx_w (wx_or (tx_not (tx_bool (ex_callB cx_isi rfl G.n_isinstance rfl (ax_cons (ex_sub (ex_var 0) (ex_int)) (ax_cons (ex_ty rfl G.n_tuple rfl) (ax_nil)))))) (wx_or1 (tx_cmp ox_gt (ex_callB cx_len rfl G.n_len rfl (ax_cons (ex_sub (ex_var 0) (ex_int)) (ax_nil))) (ex_glob (v := .int _) rfl G.c_MOST_ENTRIES.choose_spec ⟨_, rfl⟩ (fun _ => .int _))))))
      (bx_one (sx_ret (ex_bl)))
      (bx_nil))
      (bx_cons (sx_if (tx_not (tx_bool (ex_gen true [("one", 2)] hk1 nd rfl G.n_all rfl TB (congrArg some hcode) hP (blk_ok (by kernel_rfl)) (by decide) rfl rfl (ix_all (ex_sub (ex_var 0) (ex_int))) (gv_name 2 nd) (txs_nil) (ex_call H_is_place (show 2 ≤ k - 1 by omega) rfl G.f_is_place.2.1 G.f_is_place.2.2.1 G.f_is_place.2.2.2 (ax_cons (ex_sub (ex_var 0) (ex_int)) (ax_cons (ex_sub (ex_var 0) (ex_int)) (ax_cons (ex_var 2) (ax_nil)))) (fun _ _ _ _ h => len_cons (n := 2) (len_cons (n := 1) (len_cons (n := 0) ln0)) _ _ _ h)))))
      (bx_one (sx_ret (ex_bl)))
      (bx_nil))
      (bx_one (sx_ret (ex_gen true [("at", 1)] hk1 nd rfl G.n_all rfl TB (congrArg some hcode) hP (blk_ok (by kernel_rfl)) (by decide) rfl rfl (ix_range2 rfl G.n_range (ax_cons (ex_int) (ax_cons (ex_callB cx_len rfl G.n_len rfl (ax_cons (ex_sub (ex_var 0) (ex_int)) (ax_nil))) (ax_nil)))) (gv_name 1 nd) (txs_nil) (ex_cmp ox_lt (ex_sub (ex_sub (ex_var 0) (ex_int)) (ex_op ox_sub (ex_var 1) (ex_int))) (ex_sub (ex_sub (ex_var 0) (ex_int)) (ex_var 1)))))))))
theorem h_is_pattern (G : Gl T ad fo ct) : FnD T 4 (ad "is_pattern") (fo "is_pattern") ["value"] m_is_pattern := fnd_of G.f_is_pattern.1 s_is_pattern fun Wx => b_is_pattern G (Nat.le_refl _) Wx
/-- pattern_of -/
def N_pattern_of : List Str := ["matrix", "row", "column", "_"]
noncomputable def g_pattern_of : Sn := fun ρ => sE (.bnd (.bnd (.bnd (getV ρ 0) fun a => .bnd (.ret (.int 0)) fun b => subD' a b) fun d => .bnd (.bnd (.bnd (getV ρ 0) fun a => .bnd (.ret (.int 1)) fun b => subD' a b) fun d => .bnd (.bnd (.bnd (.bnd (.bnd (.bnd (.bnd (getV ρ 0) fun a => .bnd (.ret (.int 2)) fun b => subD' a b) itD) fun it => cmpD false stL [] .lst .lst (compL it.gd (turn1 (wipeR ρ [1, 2, 3]) (fun d ρ => .bnd (itemsT 3 d) fun ds => (gConsD (fun d ρ => .ret (ρ.set 1 (some d))) (gConsD (fun d ρ => .ret (ρ.set 2 (some d))) (gConsD (fun d ρ => .ret (ρ.set 3 (some d))) gNilD))) ds ρ) (fun _ => .ret true) (one' fun ρ => .bnd (.bnd (getV ρ 1) fun d => .bnd (.bnd (getV ρ 2) fun d => .bnd (.ret []) fun ds => .ret (d :: ds)) fun ds => .ret (d :: ds)) tupD)) it.items)) fun d => .bnd (.ret []) fun ds => .ret (d :: ds)) (arg1 tupleD)) fun d => .bnd (.ret []) fun ds => .ret (d :: ds)) fun ds => .ret (d :: ds)) fun ds => .ret (d :: ds)) tupD) ρ fun d M => some (.ret d, M)
theorem s_pattern_of : FnScope N_pattern_of ["matrix"] (defScope (top 26)) := ⟨by kernel_rfl, by kernel_rfl, by kernel_rfl, nd_of (by kernel_rfl), by kernel_rfl, par_ok (by kernel_rfl), nofree_ok (by kernel_rfl)⟩
noncomputable def m_pattern_of : List D → Mo D := fnD N_pattern_of g_pattern_of
theorem b_pattern_of (G : Gl T ad fo ct) {k : Nat} (hk : 0 ≤ k) (Wx : WX) : BX (T.sc N_pattern_of (defScope (top 26)) k Wx (fo "pattern_of").code) (defBody (top 26)) g_pattern_of := by
  have nd : (T.sc N_pattern_of (defScope (top 26)) k Wx (fo "pattern_of").code).N.Nodup := s_pattern_of.nd
  unfold g_pattern_of
  exact bx_one (sx_ret (ex_tup (ax_cons (ex_sub (ex_var 0) (ex_int)) (ax_cons (ex_sub (ex_var 0) (ex_int)) (ax_cons (ex_callTy cx_tuple rfl G.n_tuple rfl (ax_cons (ex_lx (lx_l1 false [("row", 1), ("column", 2), ("_", 3)]  nd (blk_ok (by kernel_rfl))  (ix_all (ex_sub (ex_var 0) (ex_int))) (gv_tup (n := 3) (gvs_cons (gv_name 1 nd) (gvs_cons (gv_name 2 nd) (gvs_cons (gv_name 3 nd) (gvs_nil))))) (txs_nil)  (ex_tup (ax_cons (ex_var 1) (ax_cons (ex_var 2) (ax_nil)))))) (ax_nil))) (ax_nil))))))
theorem h_pattern_of (G : Gl T ad fo ct) : FnD T 1 (ad "pattern_of") (fo "pattern_of") ["matrix"] m_pattern_of := fnd_of G.f_pattern_of.1 s_pattern_of fun Wx => b_pattern_of G (Nat.le_refl _) Wx
/-- is_graph -/
def N_is_graph : List Str := ["value", "at", "one", "other"]
noncomputable def g_is_graph : Sn := sSeq (sIf (fun ρ => .bnd (.bnd (.bnd (.bnd (.bnd (getV ρ 0) fun d => .bnd (.bnd (.ret (.ty "tuple")) fun d => .bnd (.ret []) fun ds => .ret (d :: ds)) fun ds => .ret (d :: ds)) (arg2 isiD)) boolD) fun b => .ret (!b)) fun z => cond z (.ret true) (.bnd (.bnd (.bnd (.bnd (.bnd (getV ρ 0) fun d => .bnd (.ret []) fun ds => .ret (d :: ds)) (arg1 lenD)) fun a => .bnd (.ret (.int 2)) fun b => neD a b) boolD) fun z => cond z (.ret true) (.bnd (.bnd (.bnd (.bnd (.bnd (getV ρ 0) fun a => .bnd (.ret (.int 0)) fun b => subD' a b) fun d => .bnd (.bnd (.ret (.int 0)) fun d => .bnd (.bnd (.ret (.int (60))) fun d => .bnd (.ret []) fun ds => .ret (d :: ds)) fun ds => .ret (d :: ds)) fun ds => .ret (d :: ds)) (m_is_number)) boolD) fun b => .ret (!b))))
      (fun ρ => sE (.ret (.bl false)) ρ fun d M => some (.ret d, M))
      (sNext))
      (sSeq (sIf (fun ρ => .bnd (.bnd (.bnd (.bnd (.bnd (.bnd (getV ρ 0) fun a => .bnd (.ret (.int 1)) fun b => subD' a b) fun d => .bnd (.bnd (.ret (.ty "tuple")) fun d => .bnd (.ret []) fun ds => .ret (d :: ds)) fun ds => .ret (d :: ds)) (arg2 isiD)) boolD) fun b => .ret (!b)) fun z => cond z (.ret true) (.bnd (.bnd (.bnd (.bnd (.bnd (getV ρ 0) fun a => .bnd (.ret (.int 1)) fun b => subD' a b) itD) fun it => genD (genL true it.gd (turnG (wipeR ρ [2]) (fun d ρ => .ret (ρ.set 2 (some d))) (fun _ => .ret true) (fun ρ => .bnd (.bnd (.bnd (getV ρ 0) fun a => .bnd (.ret (.int 0)) fun b => subD' a b) fun d => .bnd (.bnd (.bnd (getV ρ 0) fun a => .bnd (.ret (.int 0)) fun b => subD' a b) fun d => .bnd (.bnd (getV ρ 2) fun d => .bnd (.ret []) fun ds => .ret (d :: ds)) fun ds => .ret (d :: ds)) fun ds => .ret (d :: ds)) (m_is_place))) it.items)) boolD) fun b => .ret (!b)))
      (fun ρ => sE (.ret (.bl false)) ρ fun d M => some (.ret d, M))
      (sNext))
      (sSeq (sIf (fun ρ => .bnd (.bnd (.bnd (.bnd (.bnd (getV ρ 0) fun a => .bnd (.ret (.int 1)) fun b => subD' a b) itD) fun it => genD (genL true it.gd (turnG (wipeR ρ [2, 3]) (fun d ρ => .bnd (itemsT 2 d) fun ds => (gConsD (fun d ρ => .ret (ρ.set 2 (some d))) (gConsD (fun d ρ => .ret (ρ.set 3 (some d))) gNilD)) ds ρ) (fun _ => .ret true) (fun ρ => .bnd (getV ρ 2) fun a => .bnd (getV ρ 3) fun b => ltD a b)) it.items)) boolD) fun b => .ret (!b))
      (fun ρ => sE (.ret (.bl false)) ρ fun d M => some (.ret d, M))
      (sNext))
      (fun ρ => sE (.bnd (.bnd (.bnd (.ret (.int 1)) fun d => .bnd (.bnd (.bnd (.bnd (.bnd (getV ρ 0) fun a => .bnd (.ret (.int 1)) fun b => subD' a b) fun d => .bnd (.ret []) fun ds => .ret (d :: ds)) (arg1 lenD)) fun d => .bnd (.ret []) fun ds => .ret (d :: ds)) fun ds => .ret (d :: ds)) rngD2) fun it => genD (genL true it.gd (turnG (wipeR ρ [1]) (fun d ρ => .ret (ρ.set 1 (some d))) (fun _ => .ret true) (fun ρ => .bnd (.bnd (.bnd (getV ρ 0) fun a => .bnd (.ret (.int 1)) fun b => subD' a b) fun a => .bnd (.bnd (getV ρ 1) fun a => .bnd (.ret (.int 1)) fun b => subD a b) fun b => subD' a b) fun a => .bnd (.bnd (.bnd (getV ρ 0) fun a => .bnd (.ret (.int 1)) fun b => subD' a b) fun a => .bnd (getV ρ 1) fun b => subD' a b) fun b => ltD a b)) it.items)) ρ fun d M => some (.ret d, M))))
theorem s_is_graph : FnScope N_is_graph ["value"] (defScope (top 27)) := ⟨by kernel_rfl, by kernel_rfl, by kernel_rfl, nd_of (by kernel_rfl), by kernel_rfl, par_ok (by kernel_rfl), nofree_ok (by kernel_rfl)⟩
noncomputable def m_is_graph : List D → Mo D := fnD N_is_graph g_is_graph
theorem b_is_graph (G : Gl T ad fo ct) {k : Nat} (hk : 3 ≤ k) (Wx : WX) : BX (T.sc N_is_graph (defScope (top 27)) k Wx (fo "is_graph").code) (defBody (top 27)) g_is_graph := by
  have nd : (T.sc N_is_graph (defScope (top 27)) k Wx (fo "is_graph").code).N.Nodup := s_is_graph.nd
  have H_is_number := h_is_number (T := T) G
  have H_is_place := h_is_place (T := T) G
  obtain ⟨TB, hcode, hP⟩ := G.t_is_graph
  have hk1 : 1 ≤ k := by omega
  unfold g_is_graph
  exact bx_cons (sx_if (tx_w (wx_or (tx_not (tx_bool (ex_callB cx_isi rfl G.n_isinstance rfl (ax_cons (ex_var 0) (ax_cons (ex_ty rfl G.n_tuple rfl) (ax_nil)))))) (wx_or (tx_cmp ox_ne (ex_callB cx_len rfl G.n_len rfl (ax_cons (ex_var 0) (ax_nil))) (ex_int)) (wx_or1 (tx_not (tx_bool (ex_call H_is_number (show 1 ≤ k by omega) rfl G.f_is_number.2.1 G.f_is_number.2.2.1 G.f_is_number.2.2.2 (ax_cons (ex_sub (ex_var 0) (ex_int)) (ax_cons (ex_int) (ax_cons (ex_glob (v := .int _) rfl G.c_MOST_SIDE.choose_spec ⟨_, rfl⟩ (fun _ => .int _)) (ax_nil)))) (fun _ _ _ _ h => len_cons (n := 2) (len_cons (n := 1) (len_cons (n := 0) ln0)) _ _ _ h))))))))
      (bx_one (sx_ret (ex_bl)))
      (bx_nil))
      (bx_cons (sx_if (tx_w (wx_or (tx_not (tx_bool (ex_callB cx_isi rfl G.n_isinstance rfl (ax_cons (ex_sub (ex_var 0) (ex_int)) (ax_cons (ex_ty rfl G.n_tuple rfl) (ax_nil)))))) (wx_or1 (tx_not (tx_bool (ex_gen true [("one", 2)] hk1 nd rfl G.n_all rfl TB (congrArg some hcode) hP (blk_ok (by kernel_rfl)) (by decide) rfl rfl (ix_all (ex_sub (ex_var 0) (ex_int))) (gv_name 2 nd) (txs_nil) (ex_call H_is_place (show 2 ≤ k - 1 by omega) rfl G.f_is_place.2.1 G.f_is_place.2.2.1 G.f_is_place.2.2.2 (ax_cons (ex_sub (ex_var 0) (ex_int)) (ax_cons (ex_sub (ex_var 0) (ex_int)) (ax_cons (ex_var 2) (ax_nil)))) (fun _ _ _ _ h => len_cons (n := 2) (len_cons (n := 1) (len_cons (n := 0) ln0)) _ _ _ h))))))))
      (bx_one (sx_ret (ex_bl)))
      (bx_nil))
      (bx_cons (sx_if (tx_not (tx_bool (ex_gen true [("one", 2), ("other", 3)] hk1 nd rfl G.n_all rfl TB (congrArg some hcode) hP (blk_ok (by kernel_rfl)) (by decide) rfl rfl (ix_all (ex_sub (ex_var 0) (ex_int))) (gv_tup (n := 2) (gvs_cons (gv_name 2 nd) (gvs_cons (gv_name 3 nd) (gvs_nil)))) (txs_nil) (ex_cmp ox_lt (ex_var 2) (ex_var 3)))))
      (bx_one (sx_ret (ex_bl)))
      (bx_nil))
      (bx_one (sx_ret (ex_gen true [("at", 1)] hk1 nd rfl G.n_all rfl TB (congrArg some hcode) hP (blk_ok (by kernel_rfl)) (by decide) rfl rfl (ix_range2 rfl G.n_range (ax_cons (ex_int) (ax_cons (ex_callB cx_len rfl G.n_len rfl (ax_cons (ex_sub (ex_var 0) (ex_int)) (ax_nil))) (ax_nil)))) (gv_name 1 nd) (txs_nil) (ex_cmp ox_lt (ex_sub (ex_sub (ex_var 0) (ex_int)) (ex_op ox_sub (ex_var 1) (ex_int))) (ex_sub (ex_sub (ex_var 0) (ex_int)) (ex_var 1))))))))
theorem h_is_graph (G : Gl T ad fo ct) : FnD T 4 (ad "is_graph") (fo "is_graph") ["value"] m_is_graph := fnd_of G.f_is_graph.1 s_is_graph fun Wx => b_is_graph G (Nat.le_refl _) Wx
/-- graph_of -/
def N_graph_of : List Str := ["pattern", "one", "other", "found"]
noncomputable def g_graph_of : Sn := sSeq (fun ρ => sE (.bnd (.bnd (.bnd (getV ρ 0) fun a => .bnd (.ret (.int 2)) fun b => subD' a b) itD) fun it => setD (compL it.gd (turn1 (wipeR ρ [1, 2]) (fun d ρ => .bnd (itemsT 2 d) fun ds => (gConsD (fun d ρ => .ret (ρ.set 1 (some d))) (gConsD (fun d ρ => .ret (ρ.set 2 (some d))) gNilD)) ds ρ) (fun ρ => .bnd (.bnd (getV ρ 1) fun a => .bnd (getV ρ 2) fun b => neD a b) boolD) (oneS fun ρ => .bnd (.bnd (.bnd (.bnd (getV ρ 1) fun d => .bnd (.bnd (getV ρ 2) fun d => .bnd (.ret []) fun ds => .ret (d :: ds)) fun ds => .ret (d :: ds)) (arg2 minD2)) fun d => .bnd (.bnd (.bnd (.bnd (getV ρ 1) fun d => .bnd (.bnd (getV ρ 2) fun d => .bnd (.ret []) fun ds => .ret (d :: ds)) fun ds => .ret (d :: ds)) (arg2 maxD2)) fun d => .bnd (.ret []) fun ds => .ret (d :: ds)) fun ds => .ret (d :: ds)) tupD)) it.items)) ρ fun d M => some (.nx (ρ.set 3 (some d)), M))
      (fun ρ => sE (.bnd (.bnd (.bnd (getV ρ 0) fun a => .bnd (.ret (.int 0)) fun b => subD' a b) fun d => .bnd (.bnd (.bnd (.bnd (.bnd (.bnd (getV ρ 3) fun d => .bnd (.ret []) fun ds => .ret (d :: ds)) (arg1 (sortedS false 2 64))) fun d => .bnd (.ret []) fun ds => .ret (d :: ds)) (arg1 tupleD)) fun d => .bnd (.ret []) fun ds => .ret (d :: ds)) fun ds => .ret (d :: ds)) tupD) ρ fun d M => some (.ret d, M))
theorem s_graph_of : FnScope N_graph_of ["pattern"] (defScope (top 28)) := ⟨by kernel_rfl, by kernel_rfl, by kernel_rfl, nd_of (by kernel_rfl), by kernel_rfl, par_ok (by kernel_rfl), nofree_ok (by kernel_rfl)⟩
noncomputable def m_graph_of : List D → Mo D := fnD N_graph_of g_graph_of
theorem b_graph_of (G : Gl T ad fo ct) {k : Nat} (hk : 0 ≤ k) (Wx : WX) : BX (T.sc N_graph_of (defScope (top 28)) k Wx (fo "graph_of").code) (defBody (top 28)) g_graph_of := by
  have nd : (T.sc N_graph_of (defScope (top 28)) k Wx (fo "graph_of").code).N.Nodup := s_graph_of.nd
  unfold g_graph_of
  exact bx_cons (sx_setC 3 (lx_s1 [("one", 1), ("other", 2)]  nd (blk_ok (by kernel_rfl))  (ix_all (ex_sub (ex_var 0) (ex_int))) (gv_tup (n := 2) (gvs_cons (gv_name 1 nd) (gvs_cons (gv_name 2 nd) (gvs_nil)))) (txs_one (tx_cmp ox_ne (ex_var 1) (ex_var 2)))  (ex_tup (ax_cons (ex_callB cx_min2 rfl G.n_min rfl (ax_cons (ex_var 1) (ax_cons (ex_var 2) (ax_nil)))) (ax_cons (ex_callB cx_max2 rfl G.n_max rfl (ax_cons (ex_var 1) (ax_cons (ex_var 2) (ax_nil)))) (ax_nil))))) (hs := fun X c => sw_s c rfl rfl (by kernel_rfl)))
      (bx_one (sx_ret (ex_tup (ax_cons (ex_sub (ex_var 0) (ex_int)) (ax_cons (ex_callTy cx_tuple rfl G.n_tuple rfl (ax_cons (ex_callB (cx_sortedS false 2 64) rfl G.n_sorted rfl (ax_cons (ex_var 3) (ax_nil))) (ax_nil))) (ax_nil))))))
theorem h_graph_of (G : Gl T ad fo ct) : FnD T 1 (ad "graph_of") (fo "graph_of") ["pattern"] m_graph_of := fnd_of G.f_graph_of.1 s_graph_of fun Wx => b_graph_of G (Nat.le_refl _) Wx
/-- column_graph -/
def N_column_graph : List Str := ["pattern", "columns", "one", "other", "rows", "row", "column", "found"]
noncomputable def l1_column_graph : Sn := fun ρ => sE (.bnd (.bnd (.bnd (.bnd (getV ρ 4) fun a => chkM isDc a (.bnd (.bnd (getV ρ 5) fun d => .bnd (.bnd (.bnd (.ret []) lstD) fun d => .bnd (.ret []) fun ds => .ret (d :: ds)) fun ds => .ret (d :: ds)) fun ds => getD' a ds)) starD) fun l => .bnd (.bnd (getV ρ 6) fun d => .bnd (.ret []) fun ds => .ret (d :: ds)) fun ds => .ret (l ++ ds)) lstD) ρ fun d => s0 (.bnd (getV ρ 4) fun a => .bnd (getV ρ 5) fun b => storeM a b d ρ)
noncomputable def g_column_graph : Sn := sSeq (fun ρ => sE (finDO true (.dct false []) (.dct false [])) ρ fun d M => some (.nx (ρ.set 4 (some d)), M))
      (sSeq (sFor (fun ρ => .bnd (.bnd (getV ρ 0) fun a => .bnd (.ret (.int 2)) fun b => subD' a b) itD) (fun d ρ => .bnd (itemsT 2 d) fun ds => (gConsD (fun d ρ => .ret (ρ.set 5 (some d))) (gConsD (fun d ρ => .ret (ρ.set 6 (some d))) gNilD)) ds ρ) l1_column_graph)
      (sSeq (fun ρ => sE (.bnd (.bnd (getV ρ 4) (itE (·.2))) fun it => setD (compL it.gd (turn1 (wipeR ρ [1, 2, 3]) (fun d ρ => .ret (ρ.set 1 (some d))) (fun _ => .ret true) (inF (fun ρ => .bnd (getV ρ 1) itD) [2, 3] (fun d ρ => .ret (ρ.set 2 (some d))) (fun _ => .ret true) (inF (fun ρ => .bnd (getV ρ 1) itD) [3] (fun d ρ => .ret (ρ.set 3 (some d))) (fun ρ => .bnd (.bnd (getV ρ 2) fun a => .bnd (getV ρ 3) fun b => ltD a b) boolD) (oneS fun ρ => .bnd (.bnd (getV ρ 2) fun d => .bnd (.bnd (getV ρ 3) fun d => .bnd (.ret []) fun ds => .ret (d :: ds)) fun ds => .ret (d :: ds)) tupD)))) it.items)) ρ fun d M => some (.nx (ρ.set 7 (some d)), M))
      (fun ρ => sE (.bnd (.bnd (.bnd (getV ρ 0) fun a => .bnd (.ret (.int 1)) fun b => subD' a b) fun d => .bnd (.bnd (.bnd (.bnd (.bnd (.bnd (getV ρ 7) fun d => .bnd (.ret []) fun ds => .ret (d :: ds)) (arg1 (sortedS false 2 64))) fun d => .bnd (.ret []) fun ds => .ret (d :: ds)) (arg1 tupleD)) fun d => .bnd (.ret []) fun ds => .ret (d :: ds)) fun ds => .ret (d :: ds)) tupD) ρ fun d M => some (.ret d, M))))
theorem s_column_graph : FnScope N_column_graph ["pattern"] (defScope (top 29)) := ⟨by kernel_rfl, by kernel_rfl, by kernel_rfl, nd_of (by kernel_rfl), by kernel_rfl, par_ok (by kernel_rfl), nofree_ok (by kernel_rfl)⟩
noncomputable def m_column_graph : List D → Mo D := fnD N_column_graph g_column_graph
theorem b_column_graph (G : Gl T ad fo ct) {k : Nat} (hk : 0 ≤ k) (Wx : WX) : BX (T.sc N_column_graph (defScope (top 29)) k Wx (fo "column_graph").code) (defBody (top 29)) g_column_graph := by
  have nd : (T.sc N_column_graph (defScope (top 29)) k Wx (fo "column_graph").code).N.Nodup := s_column_graph.nd
  unfold g_column_graph l1_column_graph
  exact bx_cons (sx_set 4 nd (ex_dict0 true false))
      (bx_cons (sx_for rfl (ix_all (ex_sub (ex_var 0) (ex_int))) (gx_tup (n := 2) (gxs_cons (gx_name 5 nd) (gxs_cons (gx_name 6 nd) (gxs_nil))))
      (bx_one (sx_asg (ex_lst (ax_star (ex_meth mx_get (ex_var 4) (ax_cons (ex_var 5) (ax_cons (ex_lst (ax_nil)) (ax_nil)))) (ax_cons (ex_var 6) (ax_nil)))) (gx_sub (ex_var 4) (ex_var 5)))))
      (bx_cons (sx_setC 7 (lx_s3 [("columns", 1), ("one", 2), ("other", 3)] [2, 3] [3] nd (blk_ok (by kernel_rfl)) (by decide) (by decide) (ix_vals (ex_var 4)) (gv_name 1 nd) (txs_nil) (ix_all (ex_var 1)) (gv_name 2 nd) (txs_nil) (ix_all (ex_var 1)) (gv_name 3 nd) (txs_one (tx_cmp ox_lt (ex_var 2) (ex_var 3))) (ex_tup (ax_cons (ex_var 2) (ax_cons (ex_var 3) (ax_nil))))) (hs := fun X c => sw_s c rfl rfl (by kernel_rfl)))
      (bx_one (sx_ret (ex_tup (ax_cons (ex_sub (ex_var 0) (ex_int)) (ax_cons (ex_callTy cx_tuple rfl G.n_tuple rfl (ax_cons (ex_callB (cx_sortedS false 2 64) rfl G.n_sorted rfl (ax_cons (ex_var 7) (ax_nil))) (ax_nil))) (ax_nil))))))))
theorem h_column_graph (G : Gl T ad fo ct) : FnD T 1 (ad "column_graph") (fo "column_graph") ["pattern"] m_column_graph := fnd_of G.f_column_graph.1 s_column_graph fun Wx => b_column_graph G (Nat.le_refl _) Wx
/-- neighbours -/
def N_neighbours : List Str := ["graph", "_", "found", "one", "other"]
noncomputable def l1_neighbours : Sn := sSeq (fun ρ => sE (.ret (.bl true)) ρ fun d => s0 (.bnd (.bnd (getV ρ 2) fun a => .bnd (getV ρ 3) fun b => subD' a b) fun a => .bnd (getV ρ 4) fun b => storeM a b d ρ))
      (fun ρ => sE (.ret (.bl true)) ρ fun d => s0 (.bnd (.bnd (getV ρ 2) fun a => .bnd (getV ρ 4) fun b => subD' a b) fun a => .bnd (getV ρ 3) fun b => storeM a b d ρ))
noncomputable def g_neighbours : Sn := sSeq (fun ρ => sE (.bnd (.bnd (.bnd (.bnd (getV ρ 0) fun a => .bnd (.ret (.int 0)) fun b => subD' a b) fun d => .bnd (.ret []) fun ds => .ret (d :: ds)) rngD1) fun it => cmpD false stL [] .lst .lst (compL it.gd (turn1 (wipeR ρ [1]) (fun d ρ => .ret (ρ.set 1 (some d))) (fun _ => .ret true) (one' fun ρ => finDO true (.dct false []) (.dct false []))) it.items)) ρ fun d M => some (.nx (ρ.set 2 (some d)), M))
      (sSeq (sFor (fun ρ => .bnd (.bnd (getV ρ 0) fun a => .bnd (.ret (.int 1)) fun b => subD' a b) itD) (fun d ρ => .bnd (itemsT 2 d) fun ds => (gConsD (fun d ρ => .ret (ρ.set 3 (some d))) (gConsD (fun d ρ => .ret (ρ.set 4 (some d))) gNilD)) ds ρ) l1_neighbours)
      (fun ρ => sE (getV ρ 2) ρ fun d M => some (.ret d, M)))
theorem s_neighbours : FnScope N_neighbours ["graph"] (defScope (top 30)) := ⟨by kernel_rfl, by kernel_rfl, by kernel_rfl, nd_of (by kernel_rfl), by kernel_rfl, par_ok (by kernel_rfl), nofree_ok (by kernel_rfl)⟩
noncomputable def m_neighbours : List D → Mo D := fnD N_neighbours g_neighbours
theorem b_neighbours (G : Gl T ad fo ct) {k : Nat} (hk : 0 ≤ k) (Wx : WX) : BX (T.sc N_neighbours (defScope (top 30)) k Wx (fo "neighbours").code) (defBody (top 30)) g_neighbours := by
  have nd : (T.sc N_neighbours (defScope (top 30)) k Wx (fo "neighbours").code).N.Nodup := s_neighbours.nd
  unfold g_neighbours l1_neighbours
  exact bx_cons (sx_setC 2 (lx_l1 false [("_", 1)]  nd (blk_ok (by kernel_rfl))  (ix_range1 rfl G.n_range (ax_cons (ex_sub (ex_var 0) (ex_int)) (ax_nil))) (gv_name 1 nd) (txs_nil)  (ex_dict0 true false)) (hs := fun X c => sw_lc c rfl rfl (by kernel_rfl)))
      (bx_cons (sx_for rfl (ix_all (ex_sub (ex_var 0) (ex_int))) (gx_tup (n := 2) (gxs_cons (gx_name 3 nd) (gxs_cons (gx_name 4 nd) (gxs_nil))))
      (bx_cons (sx_asg (ex_bl) (gx_sub (ex_sub (ex_var 2) (ex_var 3)) (ex_var 4)))
      (bx_one (sx_asg (ex_bl) (gx_sub (ex_sub (ex_var 2) (ex_var 4)) (ex_var 3))))))
      (bx_one (sx_ret (ex_var 2))))
theorem h_neighbours (G : Gl T ad fo ct) : FnD T 1 (ad "neighbours") (fo "neighbours") ["graph"] m_neighbours := fnd_of G.f_neighbours.1 s_neighbours fun Wx => b_neighbours G (Nat.le_refl _) Wx
/-- is_symmetric -/
def N_is_symmetric : List Str := ["matrix", "row", "column", "value", "table"]
noncomputable def g_is_symmetric : Sn := sSeq (fun ρ => sE (.bnd (.bnd (.bnd (getV ρ 0) fun a => .bnd (.ret (.int 2)) fun b => subD' a b) itD) fun it => cmpD false (stD true) [] (.dct true) (.dct true) (compL it.gd (turn1 (wipeR ρ [1, 2, 3]) (fun d ρ => .bnd (itemsT 3 d) fun ds => (gConsD (fun d ρ => .ret (ρ.set 1 (some d))) (gConsD (fun d ρ => .ret (ρ.set 2 (some d))) (gConsD (fun d ρ => .ret (ρ.set 3 (some d))) gNilD))) ds ρ) (fun _ => .ret true) (two' (fun ρ => .bnd (.bnd (getV ρ 1) fun d => .bnd (.bnd (getV ρ 2) fun d => .bnd (.ret []) fun ds => .ret (d :: ds)) fun ds => .ret (d :: ds)) tupD) (fun ρ => getV ρ 3))) it.items)) ρ fun d M => some (.nx (ρ.set 4 (some d)), M))
      (sSeq (sIf (fun ρ => .bnd (.bnd (.bnd (getV ρ 0) fun a => .bnd (.ret (.int 0)) fun b => subD' a b) fun a => .bnd (.bnd (getV ρ 0) fun a => .bnd (.ret (.int 1)) fun b => subD' a b) fun b => neD a b) boolD)
      (fun ρ => sE (.ret (.bl false)) ρ fun d M => some (.ret d, M))
      (sNext))
      (fun ρ => sE (.bnd (.bnd (.bnd (getV ρ 0) fun a => .bnd (.ret (.int 2)) fun b => subD' a b) itD) fun it => genD (genL true it.gd (turnG (wipeR ρ [1, 2, 3]) (fun d ρ => .bnd (itemsT 3 d) fun ds => (gConsD (fun d ρ => .ret (ρ.set 1 (some d))) (gConsD (fun d ρ => .ret (ρ.set 2 (some d))) (gConsD (fun d ρ => .ret (ρ.set 3 (some d))) gNilD))) ds ρ) (fun _ => .ret true) (fun ρ => .bnd (.bnd (getV ρ 4) fun a => chkM isDc a (.bnd (.bnd (.bnd (.bnd (getV ρ 2) fun d => .bnd (.bnd (getV ρ 1) fun d => .bnd (.ret []) fun ds => .ret (d :: ds)) fun ds => .ret (d :: ds)) tupD) fun d => .bnd (.ret []) fun ds => .ret (d :: ds)) fun ds => getD' a ds)) fun a => .bnd (getV ρ 3) fun b => eqD a b)) it.items)) ρ fun d M => some (.ret d, M)))
theorem s_is_symmetric : FnScope N_is_symmetric ["matrix"] (defScope (top 31)) := ⟨by kernel_rfl, by kernel_rfl, by kernel_rfl, nd_of (by kernel_rfl), by kernel_rfl, par_ok (by kernel_rfl), nofree_ok (by kernel_rfl)⟩
noncomputable def m_is_symmetric : List D → Mo D := fnD N_is_symmetric g_is_symmetric
theorem b_is_symmetric (G : Gl T ad fo ct) {k : Nat} (hk : 1 ≤ k) (Wx : WX) : BX (T.sc N_is_symmetric (defScope (top 31)) k Wx (fo "is_symmetric").code) (defBody (top 31)) g_is_symmetric := by
  have nd : (T.sc N_is_symmetric (defScope (top 31)) k Wx (fo "is_symmetric").code).N.Nodup := s_is_symmetric.nd
  obtain ⟨TB, hcode, hP⟩ := G.t_is_symmetric
  have hk1 : 1 ≤ k := by omega
  unfold g_is_symmetric
  exact bx_cons (sx_set 4 nd (ex_lx (lx_d1 false true [("row", 1), ("column", 2), ("value", 3)]  nd (blk_ok (by kernel_rfl))  (ix_all (ex_sub (ex_var 0) (ex_int))) (gv_tup (n := 3) (gvs_cons (gv_name 1 nd) (gvs_cons (gv_name 2 nd) (gvs_cons (gv_name 3 nd) (gvs_nil))))) (txs_nil)  (ex_tup (ax_cons (ex_var 1) (ax_cons (ex_var 2) (ax_nil)))) (ex_var 3))) (hs := fun X c => sw_dC c rfl))
      (bx_cons (sx_if (tx_cmp ox_ne (ex_sub (ex_var 0) (ex_int)) (ex_sub (ex_var 0) (ex_int)))
      (bx_one (sx_ret (ex_bl)))
      (bx_nil))
      (bx_one (sx_ret (ex_gen true [("row", 1), ("column", 2), ("value", 3)] hk1 nd rfl G.n_all rfl TB (congrArg some hcode) hP (blk_ok (by kernel_rfl)) (by decide) rfl rfl (ix_all (ex_sub (ex_var 0) (ex_int))) (gv_tup (n := 3) (gvs_cons (gv_name 1 nd) (gvs_cons (gv_name 2 nd) (gvs_cons (gv_name 3 nd) (gvs_nil))))) (txs_nil) (ex_cmp ox_eq (ex_meth mx_get (ex_var 4) (ax_cons (ex_tup (ax_cons (ex_var 2) (ax_cons (ex_var 1) (ax_nil)))) (ax_nil))) (ex_var 3))))))
theorem h_is_symmetric (G : Gl T ad fo ct) : FnD T 2 (ad "is_symmetric") (fo "is_symmetric") ["matrix"] m_is_symmetric := fnd_of G.f_is_symmetric.1 s_is_symmetric fun Wx => b_is_symmetric G (Nat.le_refl _) Wx
/-- _law_draws -/
def N__law_draws : List Str := ["script", "draws", "piece", "number", "first", "k", "seed"]
noncomputable def l1__law_draws : Sn := sIf (fun ρ => .bnd (.bnd (getV ρ 3) fun a => .bnd (.ret (.int 0)) fun b => gtD a b) boolD)
      (sSeq (fun ρ => sE (.bnd (getV ρ 1) fun a => chkM isL a (.bnd (.bnd (.bnd (.bnd (.bnd (getV ρ 3) fun d => .bnd (.ret []) fun ds => .ret (d :: ds)) (arg1 intD)) fun a => .bnd (.ret (.int 997)) fun b => modD a b) fun d => .bnd (.ret []) fun ds => .ret (d :: ds)) fun ds => appendD a ds)) ρ fun _ M => some (.nx ρ, M))
      (fun ρ => sE (.bnd (getV ρ 3) fun a => .bnd (.ret (.int 997)) fun b => fdivD a b) ρ fun d M => some (.nx (ρ.set 3 (some d)), M)))
      (sNext)
noncomputable def l2__law_draws : Sn := sSeq (fun ρ => sE (.bnd (.bnd (getV ρ 2) fun d => .bnd (.ret []) fun ds => .ret (d :: ds)) (arg1 absD)) ρ fun d M => some (.nx (ρ.set 3 (some d)), M))
      (sSeq (sIf (fun ρ => .bnd (.bnd (getV ρ 3) fun a => .bnd (.bnd (.ret (.int 10)) fun a => .bnd (.ret (.int 18)) fun b => powD a b) fun b => ltD a b) boolD)
      (sSeq (fun ρ => sE (.bnd (.bnd (.bnd (.bnd (.bnd (getV ρ 3) fun a => .bnd (.ret (.int 48271)) fun b => mulD a b) fun a => .bnd (.ret (.int 11)) fun b => addD a b) fun d => .bnd (.ret []) fun ds => .ret (d :: ds)) (arg1 intD)) fun a => .bnd (.ret (.int 2147483647)) fun b => modD a b) ρ fun d M => some (.nx (ρ.set 4 (some d)), M))
      (sSeq (fun ρ => sE (.bnd (getV ρ 1) fun a => chkM isL a (.bnd (.bnd (.bnd (.bnd (.bnd (.bnd (.bnd (getV ρ 4) fun a => .bnd (.ret (.int 69621)) fun b => mulD a b) fun a => .bnd (getV ρ 3) fun b => addD a b) fun d => .bnd (.ret []) fun ds => .ret (d :: ds)) (arg1 intD)) fun a => .bnd (.ret (.int 2147483629)) fun b => modD a b) fun d => .bnd (.ret []) fun ds => .ret (d :: ds)) fun ds => appendD a ds)) ρ fun _ M => some (.nx ρ, M))
      (sSeq (fun ρ => sE (.bnd (getV ρ 1) fun a => chkM isL a (.bnd (.bnd (.bnd (.bnd (.bnd (.bnd (getV ρ 4) fun a => .bnd (.bnd (getV ρ 3) fun a => .bnd (.ret (.int 7)) fun b => fdivD a b) fun b => addD a b) fun d => .bnd (.ret []) fun ds => .ret (d :: ds)) (arg1 intD)) fun a => .bnd (.ret (.int 1000003)) fun b => modD a b) fun d => .bnd (.ret []) fun ds => .ret (d :: ds)) fun ds => appendD a ds)) ρ fun _ M => some (.nx ρ, M))
      (fun ρ => sE (.ret (.int 0)) ρ fun d M => some (.nx (ρ.set 3 (some d)), M)))))
      (sNext))
      (sFor (fun ρ => .bnd (.bnd (.ret (.int 60)) fun d => .bnd (.ret []) fun ds => .ret (d :: ds)) rngD1) (fun d ρ => .ret (ρ.set 5 (some d))) l1__law_draws))
noncomputable def l3__law_draws : Sn := sSeq (fun ρ => sE (.bnd (.bnd (.bnd (.bnd (.bnd (getV ρ 6) fun a => .bnd (.ret (.int 48271)) fun b => mulD a b) fun a => .bnd (.ret (.int 69621)) fun b => addD a b) fun d => .bnd (.ret []) fun ds => .ret (d :: ds)) (arg1 intD)) fun a => .bnd (.ret (.int 2147483647)) fun b => modD a b) ρ fun d M => some (.nx (ρ.set 6 (some d)), M))
      (fun ρ => sE (.bnd (getV ρ 1) fun a => chkM isL a (.bnd (.bnd (.bnd (getV ρ 6) fun a => .bnd (.ret (.int 5)) fun b => fdivD a b) fun d => .bnd (.ret []) fun ds => .ret (d :: ds)) fun ds => appendD a ds)) ρ fun _ M => some (.nx ρ, M))
noncomputable def g__law_draws : Sn := sSeq (fun ρ => sE (.bnd (.ret []) newL) ρ fun d M => some (.nx (ρ.set 1 (some d)), M))
      (sSeq (sFor (fun ρ => .bnd (getV ρ 0) itD) (fun d ρ => .ret (ρ.set 2 (some d))) l2__law_draws)
      (sSeq (fun ρ => sE (.ret (.int 1)) ρ fun d M => some (.nx (ρ.set 6 (some d)), M))
      (sSeq (sIf (fun ρ => .bnd (.bnd (.bnd (.bnd (getV ρ 0) fun d => .bnd (.ret []) fun ds => .ret (d :: ds)) (arg1 lenD)) fun a => .bnd (.ret (.int 0)) fun b => gtD a b) boolD)
      (fun ρ => sE (.bnd (.ret (.int 1)) fun a => .bnd (.bnd (.bnd (.bnd (getV ρ 0) fun a => .bnd (.ret (.int 0)) fun b => subD' a b) fun d => .bnd (.ret []) fun ds => .ret (d :: ds)) (arg1 absD)) fun b => addD a b) ρ fun d M => some (.nx (ρ.set 6 (some d)), M))
      (sNext))
      (sSeq (sFor (fun ρ => .bnd (.bnd (.ret (.int 900)) fun d => .bnd (.ret []) fun ds => .ret (d :: ds)) rngD1) (fun d ρ => .ret (ρ.set 5 (some d))) l3__law_draws)
      (fun ρ => sE (.bnd (getV ρ 1) (lrevD true)) ρ fun d M => some (.ret d, M))))))
theorem s__law_draws : FnScope N__law_draws ["script"] (defScope (top 33)) := ⟨by kernel_rfl, by kernel_rfl, by kernel_rfl, nd_of (by kernel_rfl), by kernel_rfl, par_ok (by kernel_rfl), nofree_ok (by kernel_rfl)⟩
noncomputable def m__law_draws : List D → Mo D := fnO N__law_draws g__law_draws
theorem b__law_draws (G : Gl T ad fo ct) {k : Nat} (hk : 0 ≤ k) (Wx : WX) : BX (T.sc N__law_draws (defScope (top 33)) k Wx (fo "_law_draws").code) (defBody (top 33)) g__law_draws := by
  have nd : (T.sc N__law_draws (defScope (top 33)) k Wx (fo "_law_draws").code).N.Nodup := s__law_draws.nd
  unfold g__law_draws l3__law_draws l2__law_draws l1__law_draws
  exact bx_cons (sx_set 1 nd (ex_lstM (ax_nil)))
      (bx_cons (sx_for rfl (ix_all (ex_var 0)) (gx_name 2 nd)
      (bx_cons (sx_set 3 nd (ex_callB cx_abs rfl G.n_abs rfl (ax_cons (ex_var 2) (ax_nil))))
      (bx_cons (sx_if (tx_cmp ox_lt (ex_var 3) (ex_op ox_pow (ex_int) (ex_int)))
      (bx_cons (sx_set 4 nd (ex_op ox_mod (ex_callTy cx_int rfl G.n_int rfl (ax_cons (ex_op ox_add (ex_op ox_mul (ex_var 3) (ex_int)) (ex_int)) (ax_nil))) (ex_int)))
      (bx_cons (sx_expr (ex_meth mx_append (ex_var 1) (ax_cons (ex_op ox_mod (ex_callTy cx_int rfl G.n_int rfl (ax_cons (ex_op ox_add (ex_op ox_mul (ex_var 4) (ex_int)) (ex_var 3)) (ax_nil))) (ex_int)) (ax_nil))))
      (bx_cons (sx_expr (ex_meth mx_append (ex_var 1) (ax_cons (ex_op ox_mod (ex_callTy cx_int rfl G.n_int rfl (ax_cons (ex_op ox_add (ex_var 4) (ex_op ox_fdiv (ex_var 3) (ex_int))) (ax_nil))) (ex_int)) (ax_nil))))
      (bx_one (sx_set 3 nd (ex_int))))))
      (bx_nil))
      (bx_one (sx_for rfl (ix_range1 rfl G.n_range (ax_cons (ex_int) (ax_nil))) (gx_name 5 nd)
      (bx_one (sx_if (tx_cmp ox_gt (ex_var 3) (ex_int))
      (bx_cons (sx_expr (ex_meth mx_append (ex_var 1) (ax_cons (ex_op ox_mod (ex_callTy cx_int rfl G.n_int rfl (ax_cons (ex_var 3) (ax_nil))) (ex_int)) (ax_nil))))
      (bx_one (sx_set 3 nd (ex_op ox_fdiv (ex_var 3) (ex_int)))))
      (bx_nil))))))))
      (bx_cons (sx_set 6 nd (ex_int))
      (bx_cons (sx_if (tx_cmp ox_gt (ex_callB cx_len rfl G.n_len rfl (ax_cons (ex_var 0) (ax_nil))) (ex_int))
      (bx_one (sx_set 6 nd (ex_op ox_add (ex_int) (ex_callB cx_abs rfl G.n_abs rfl (ax_cons (ex_sub (ex_var 0) (ex_int)) (ax_nil))))))
      (bx_nil))
      (bx_cons (sx_for rfl (ix_range1 rfl G.n_range (ax_cons (ex_int) (ax_nil))) (gx_name 5 nd)
      (bx_cons (sx_set 6 nd (ex_op ox_mod (ex_callTy cx_int rfl G.n_int rfl (ax_cons (ex_op ox_add (ex_op ox_mul (ex_var 6) (ex_int)) (ex_int)) (ax_nil))) (ex_int)))
      (bx_one (sx_expr (ex_meth mx_append (ex_var 1) (ax_cons (ex_op ox_fdiv (ex_var 6) (ex_int)) (ax_nil)))))))
      (bx_one (sx_ret (ex_lrev true rfl G.n_list rfl G.n_reversed (ex_var 1))))))))
theorem h__law_draws (G : Gl T ad fo ct) : FnD T 1 (ad "_law_draws") (fo "_law_draws") ["script"] m__law_draws := fno_of G.f__law_draws.1 s__law_draws fun Wx => b__law_draws G (Nat.le_refl _) Wx
/-- _law_take -/
def N__law_take : List Str := ["draws", "bound"]
noncomputable def g__law_take : Sn := sSeq (sIf (fun ρ => .bnd (.bnd (.bnd (.bnd (getV ρ 0) fun d => .bnd (.ret []) fun ds => .ret (d :: ds)) (arg1 lenD)) fun a => .bnd (.ret (.int 0)) fun b => eqD a b) boolD)
      (fun ρ => sE (.ret (.int 0)) ρ fun d M => some (.ret d, M))
      (sNext))
      (fun ρ => sE (.bnd (.bnd (.bnd (.bnd (getV ρ 0) fun a => chkM isL a (popD a [])) fun d => .bnd (.ret []) fun ds => .ret (d :: ds)) (arg1 intD)) fun a => .bnd (getV ρ 1) fun b => modD a b) ρ fun d M => some (.ret d, M))
theorem s__law_take : FnScope N__law_take ["draws", "bound"] (defScope (top 34)) := ⟨by kernel_rfl, by kernel_rfl, by kernel_rfl, nd_of (by kernel_rfl), by kernel_rfl, par_ok (by kernel_rfl), nofree_ok (by kernel_rfl)⟩
noncomputable def m__law_take : List D → Mo D := fnD N__law_take g__law_take
theorem b__law_take (G : Gl T ad fo ct) {k : Nat} (hk : 0 ≤ k) (Wx : WX) : BX (T.sc N__law_take (defScope (top 34)) k Wx (fo "_law_take").code) (defBody (top 34)) g__law_take := by
  have nd : (T.sc N__law_take (defScope (top 34)) k Wx (fo "_law_take").code).N.Nodup := s__law_take.nd
  unfold g__law_take
  exact bx_cons (sx_if (tx_cmp ox_eq (ex_callB cx_len rfl G.n_len rfl (ax_cons (ex_var 0) (ax_nil))) (ex_int))
      (bx_one (sx_ret (ex_int)))
      (bx_nil))
      (bx_one (sx_ret (ex_op ox_mod (ex_callTy cx_int rfl G.n_int rfl (ax_cons (ex_meth0 mx_pop (ex_var 0)) (ax_nil))) (ex_var 1))))
theorem h__law_take (G : Gl T ad fo ct) : FnD T 1 (ad "_law_take") (fo "_law_take") ["draws", "bound"] m__law_take := fnd_of G.f__law_take.1 s__law_take fun Wx => b__law_take G (Nat.le_refl _) Wx
/-- _law_alike -/
def N__law_alike : List Str := ["found", "due", "k"]
noncomputable def g__law_alike (m__law_alike : List D → Mo D) : Sn := sSeq (sIf (fun ρ => .bnd (.bnd (.bnd (.bnd (getV ρ 1) fun d => .bnd (.bnd (.ret (.ty "list")) fun d => .bnd (.ret []) fun ds => .ret (d :: ds)) fun ds => .ret (d :: ds)) (arg2 isiD)) boolD) fun z => cond z (.ret true) (.bnd (.bnd (.bnd (getV ρ 1) fun d => .bnd (.bnd (.ret (.ty "tuple")) fun d => .bnd (.ret []) fun ds => .ret (d :: ds)) fun ds => .ret (d :: ds)) (arg2 isiD)) boolD))
      (sSeq (sIf (fun ρ => .bnd (.bnd (.bnd (.bnd (.bnd (getV ρ 0) fun d => .bnd (.bnd (.ret (.ty "list")) fun d => .bnd (.ret []) fun ds => .ret (d :: ds)) fun ds => .ret (d :: ds)) (arg2 isiD)) fun a => .bnd (.bnd (.bnd (getV ρ 1) fun d => .bnd (.bnd (.ret (.ty "list")) fun d => .bnd (.ret []) fun ds => .ret (d :: ds)) fun ds => .ret (d :: ds)) (arg2 isiD)) fun b => neD a b) boolD) fun z => cond z (.ret true) (.bnd (.bnd (.bnd (.bnd (getV ρ 0) fun d => .bnd (.bnd (.ret (.ty "tuple")) fun d => .bnd (.ret []) fun ds => .ret (d :: ds)) fun ds => .ret (d :: ds)) (arg2 isiD)) fun a => .bnd (.bnd (.bnd (getV ρ 1) fun d => .bnd (.bnd (.ret (.ty "tuple")) fun d => .bnd (.ret []) fun ds => .ret (d :: ds)) fun ds => .ret (d :: ds)) (arg2 isiD)) fun b => neD a b) boolD))
      (fun ρ => sE (.ret (.bl false)) ρ fun d M => some (.ret d, M))
      (sNext))
      (fun ρ => sE (.bnd (.bnd (.bnd (.bnd (.bnd (getV ρ 0) fun d => .bnd (.ret []) fun ds => .ret (d :: ds)) (arg1 lenD)) fun a => .bnd (.bnd (.bnd (getV ρ 1) fun d => .bnd (.ret []) fun ds => .ret (d :: ds)) (arg1 lenD)) fun b => eqD a b) boolD) fun z => cond z (.bnd (.bnd (.bnd (.bnd (.bnd (.bnd (getV ρ 1) fun d => .bnd (.ret []) fun ds => .ret (d :: ds)) (arg1 lenD)) fun d => .bnd (.ret []) fun ds => .ret (d :: ds)) rngD1) fun it => cmpD false stL [] .lst .lst (compL it.gd (turn1 (wipeR ρ [2]) (fun d ρ => .ret (ρ.set 2 (some d))) (fun ρ => .bnd (.bnd (.bnd (.bnd (.bnd (getV ρ 0) fun a => .bnd (getV ρ 2) fun b => subD' a b) fun d => .bnd (.bnd (.bnd (getV ρ 1) fun a => .bnd (getV ρ 2) fun b => subD' a b) fun d => .bnd (.ret []) fun ds => .ret (d :: ds)) fun ds => .ret (d :: ds)) (m__law_alike)) boolD) fun b => .ret (!b)) (one' fun ρ => getV ρ 2)) it.items)) fun a => .bnd (.bnd (.ret []) lstD) fun b => eqD a b) (.ret (.bl false))) ρ fun d M => some (.ret d, M)))
      (sNext))
      (sSeq (sIf (fun ρ => .bnd (.bnd (getV ρ 1) fun a => .bnd (.ret .non) fun b => isD a b) boolD)
      (fun ρ => sE (.bnd (getV ρ 0) fun a => .bnd (.ret .non) fun b => isD a b) ρ fun d M => some (.ret d, M))
      (sNext))
      (sSeq (sIf (fun ρ => .bnd (.bnd (.bnd (.bnd (getV ρ 1) fun d => .bnd (.bnd (.ret (.ty "bool")) fun d => .bnd (.ret []) fun ds => .ret (d :: ds)) fun ds => .ret (d :: ds)) (arg2 isiD)) boolD) fun z => cond z (.ret true) (.bnd (.bnd (.bnd (getV ρ 0) fun d => .bnd (.bnd (.ret (.ty "bool")) fun d => .bnd (.ret []) fun ds => .ret (d :: ds)) fun ds => .ret (d :: ds)) (arg2 isiD)) boolD))
      (fun ρ => sE (.bnd (.bnd (.bnd (.bnd (getV ρ 0) fun d => .bnd (.bnd (.ret (.ty "bool")) fun d => .bnd (.ret []) fun ds => .ret (d :: ds)) fun ds => .ret (d :: ds)) (arg2 isiD)) boolD) fun z => cond z (.bnd (.bnd (.bnd (.bnd (getV ρ 1) fun d => .bnd (.bnd (.ret (.ty "bool")) fun d => .bnd (.ret []) fun ds => .ret (d :: ds)) fun ds => .ret (d :: ds)) (arg2 isiD)) boolD) fun z => cond z (.bnd (getV ρ 0) fun a => .bnd (getV ρ 1) fun b => eqD a b) (.ret (.bl false))) (.ret (.bl false))) ρ fun d M => some (.ret d, M))
      (sNext))
      (sSeq (sIf (fun ρ => .bnd (.bnd (.bnd (getV ρ 1) fun d => .bnd (.bnd (.ret (.ty "int")) fun d => .bnd (.ret []) fun ds => .ret (d :: ds)) fun ds => .ret (d :: ds)) (arg2 isiD)) boolD)
      (fun ρ => sE (.bnd (.bnd (.bnd (.bnd (getV ρ 0) fun d => .bnd (.bnd (.ret (.ty "int")) fun d => .bnd (.ret []) fun ds => .ret (d :: ds)) fun ds => .ret (d :: ds)) (arg2 isiD)) boolD) fun z => cond z (.bnd (getV ρ 0) fun a => .bnd (getV ρ 1) fun b => eqD a b) (.ret (.bl false))) ρ fun d M => some (.ret d, M))
      (sNext))
      (fun ρ => sE (.bnd (.bnd (.bnd (.bnd (getV ρ 0) fun d => .bnd (.bnd (.ret (.ty "str")) fun d => .bnd (.ret []) fun ds => .ret (d :: ds)) fun ds => .ret (d :: ds)) (arg2 isiD)) boolD) fun z => cond z (.bnd (getV ρ 0) fun a => .bnd (getV ρ 1) fun b => eqD a b) (.ret (.bl false))) ρ fun d M => some (.ret d, M)))))
theorem s__law_alike : FnScope N__law_alike ["found", "due"] (defScope (top 35)) := ⟨by kernel_rfl, by kernel_rfl, by kernel_rfl, nd_of (by kernel_rfl), by kernel_rfl, par_ok (by kernel_rfl), nofree_ok (by kernel_rfl)⟩
noncomputable def m__law_alike : Nat → List D → Mo D
  | 0 => fun _ => .stuck
  | n + 1 => fnD N__law_alike (g__law_alike (m__law_alike n))
theorem b__law_alike (G : Gl T ad fo ct) {k : Nat} (hk : 0 ≤ k) {m__law_alike : List D → Mo D} (H__law_alike : FnD T k (ad "_law_alike") (fo "_law_alike") ["found", "due"] m__law_alike) (Wx : WX) : BX (T.sc N__law_alike (defScope (top 35)) k Wx (fo "_law_alike").code) (defBody (top 35)) (g__law_alike m__law_alike) := by
  have nd : (T.sc N__law_alike (defScope (top 35)) k Wx (fo "_law_alike").code).N.Nodup := s__law_alike.nd
  unfold g__law_alike
  exact bx_cons (sx_if (tx_w (wx_or (tx_bool (ex_callB cx_isi rfl G.n_isinstance rfl (ax_cons (ex_var 1) (ax_cons (ex_ty rfl G.n_list rfl) (ax_nil))))) (wx_or1 (tx_bool (ex_callB cx_isi rfl G.n_isinstance rfl (ax_cons (ex_var 1) (ax_cons (ex_ty rfl G.n_tuple rfl) (ax_nil))))))))
      (bx_cons (sx_if (tx_w (wx_or (tx_cmp ox_ne (ex_callB cx_isi rfl G.n_isinstance rfl (ax_cons (ex_var 0) (ax_cons (ex_ty rfl G.n_list rfl) (ax_nil)))) (ex_callB cx_isi rfl G.n_isinstance rfl (ax_cons (ex_var 1) (ax_cons (ex_ty rfl G.n_list rfl) (ax_nil))))) (wx_or1 (tx_cmp ox_ne (ex_callB cx_isi rfl G.n_isinstance rfl (ax_cons (ex_var 0) (ax_cons (ex_ty rfl G.n_tuple rfl) (ax_nil)))) (ex_callB cx_isi rfl G.n_isinstance rfl (ax_cons (ex_var 1) (ax_cons (ex_ty rfl G.n_tuple rfl) (ax_nil))))))))
      (bx_one (sx_ret (ex_bl)))
      (bx_nil))
      (bx_one (sx_ret (ex_and (ex_cmp ox_eq (ex_callB cx_len rfl G.n_len rfl (ax_cons (ex_var 0) (ax_nil))) (ex_callB cx_len rfl G.n_len rfl (ax_cons (ex_var 1) (ax_nil)))) (ex_one (ex_cmp ox_eq (ex_lx (lx_l1 false [("k", 2)]  nd (blk_ok (by kernel_rfl))  (ix_range1 rfl G.n_range (ax_cons (ex_callB cx_len rfl G.n_len rfl (ax_cons (ex_var 1) (ax_nil))) (ax_nil))) (gv_name 2 nd) (txs_one (tx_not (tx_bool (ex_call H__law_alike (Nat.le_refl _) rfl G.f__law_alike.2.1 G.f__law_alike.2.2.1 G.f__law_alike.2.2.2 (ax_cons (ex_sub (ex_var 0) (ex_var 2)) (ax_cons (ex_sub (ex_var 1) (ex_var 2)) (ax_nil))) (fun _ _ _ _ h => len_cons (n := 1) (len_cons (n := 0) ln0) _ _ _ h)))))  (ex_var 2))) (ex_lst (ax_nil))))))))
      (bx_nil))
      (bx_cons (sx_if (tx_cmp ox_is (ex_var 1) (ex_non))
      (bx_one (sx_ret (ex_cmp ox_is (ex_var 0) (ex_non))))
      (bx_nil))
      (bx_cons (sx_if (tx_w (wx_or (tx_bool (ex_callB cx_isi rfl G.n_isinstance rfl (ax_cons (ex_var 1) (ax_cons (ex_ty rfl G.n_bool rfl) (ax_nil))))) (wx_or1 (tx_bool (ex_callB cx_isi rfl G.n_isinstance rfl (ax_cons (ex_var 0) (ax_cons (ex_ty rfl G.n_bool rfl) (ax_nil))))))))
      (bx_one (sx_ret (ex_and (ex_callB cx_isi rfl G.n_isinstance rfl (ax_cons (ex_var 0) (ax_cons (ex_ty rfl G.n_bool rfl) (ax_nil)))) (ex_and (ex_callB cx_isi rfl G.n_isinstance rfl (ax_cons (ex_var 1) (ax_cons (ex_ty rfl G.n_bool rfl) (ax_nil)))) (ex_one (ex_cmp ox_eq (ex_var 0) (ex_var 1)))))))
      (bx_nil))
      (bx_cons (sx_if (tx_bool (ex_callB cx_isi rfl G.n_isinstance rfl (ax_cons (ex_var 1) (ax_cons (ex_ty rfl G.n_int rfl) (ax_nil)))))
      (bx_one (sx_ret (ex_and (ex_callB cx_isi rfl G.n_isinstance rfl (ax_cons (ex_var 0) (ax_cons (ex_ty rfl G.n_int rfl) (ax_nil)))) (ex_one (ex_cmp ox_eq (ex_var 0) (ex_var 1))))))
      (bx_nil))
      (bx_one (sx_ret (ex_and (ex_callB cx_isi rfl G.n_isinstance rfl (ax_cons (ex_var 0) (ax_cons (ex_ty rfl G.n_str rfl) (ax_nil)))) (ex_one (ex_cmp ox_eq (ex_var 0) (ex_var 1)))))))))
theorem h__law_alike (G : Gl T ad fo ct) : ∀ n, FnD T (n + 1) (ad "_law_alike") (fo "_law_alike") ["found", "due"] (m__law_alike n)
  | 0 => fnd_stuck
  | n + 1 => by
    show FnD T (n + 1 + 1) _ _ _ (fnD N__law_alike (g__law_alike (m__law_alike n)))
    exact fnd_of G.f__law_alike.1 s__law_alike fun Wx => b__law_alike G (by omega) (h__law_alike G n) Wx
/-- _law_says -/
def N__law_says : List Str := ["told", "due"]
noncomputable def g__law_says : Sn := fun ρ => sE (.bnd (.bnd (.bnd (.bnd (getV ρ 0) fun d => .bnd (.bnd (.ret (.ty "bool")) fun d => .bnd (.ret []) fun ds => .ret (d :: ds)) fun ds => .ret (d :: ds)) (arg2 isiD)) boolD) fun z => cond z (.bnd (getV ρ 0) fun a => .bnd (getV ρ 1) fun b => eqD a b) (.ret (.bl false))) ρ fun d M => some (.ret d, M)
theorem s__law_says : FnScope N__law_says ["told", "due"] (defScope (top 36)) := ⟨by kernel_rfl, by kernel_rfl, by kernel_rfl, nd_of (by kernel_rfl), by kernel_rfl, par_ok (by kernel_rfl), nofree_ok (by kernel_rfl)⟩
noncomputable def m__law_says : List D → Mo D := fnD N__law_says g__law_says
theorem b__law_says (G : Gl T ad fo ct) {k : Nat} (hk : 0 ≤ k) (Wx : WX) : BX (T.sc N__law_says (defScope (top 36)) k Wx (fo "_law_says").code) (defBody (top 36)) g__law_says := by
  have nd : (T.sc N__law_says (defScope (top 36)) k Wx (fo "_law_says").code).N.Nodup := s__law_says.nd
  unfold g__law_says
  exact bx_one (sx_ret (ex_and (ex_callB cx_isi rfl G.n_isinstance rfl (ax_cons (ex_var 0) (ax_cons (ex_ty rfl G.n_bool rfl) (ax_nil)))) (ex_one (ex_cmp ox_eq (ex_var 0) (ex_var 1)))))
theorem h__law_says (G : Gl T ad fo ct) : FnD T 1 (ad "_law_says") (fo "_law_says") ["told", "due"] m__law_says := fnd_of G.f__law_says.1 s__law_says fun Wx => b__law_says G (Nat.le_refl _) Wx
/-- _law_made -/
def N__law_made : List Str := ["part", "whole", "one", "other", "sign"]
noncomputable def l1__law_made : Sn := fun ρ => sE (.bnd (getV ρ 3) fun d => .bnd (.bnd (.bnd (getV ρ 2) fun a => .bnd (getV ρ 3) fun b => modD a b) fun d => .bnd (.ret []) fun ds => .ret (d :: ds)) fun ds => .ret (d :: ds)) ρ (par2 2 3 ρ)
noncomputable def g__law_made : Sn := sSeq (fun ρ => sE (.bnd (.bnd (.bnd (getV ρ 0) fun d => .bnd (.ret []) fun ds => .ret (d :: ds)) (arg1 absD)) fun d => .bnd (.bnd (.bnd (.bnd (getV ρ 1) fun d => .bnd (.ret []) fun ds => .ret (d :: ds)) (arg1 absD)) fun d => .bnd (.ret []) fun ds => .ret (d :: ds)) fun ds => .ret (d :: ds)) ρ (par2 2 3 ρ))
      (sSeq (whileN (fun ρ => .bnd (.bnd (getV ρ 3) fun a => .bnd (.ret (.int 0)) fun b => gtD a b) boolD) l1__law_made 1000)
      (sSeq (fun ρ => sE (.bnd (.bnd (.bnd (getV ρ 1) fun a => .bnd (.ret (.int 0)) fun b => gtD a b) boolD) fun z => cond z (.ret (.int 1)) (.bnd (.ret (.int 1)) fun a => negD a)) ρ fun d M => some (.nx (ρ.set 4 (some d)), M))
      (fun ρ => sE (.bnd (.bnd (.bnd (.bnd (getV ρ 4) fun a => .bnd (getV ρ 0) fun b => mulD a b) fun a => .bnd (getV ρ 2) fun b => fdivD a b) fun d => .bnd (.bnd (.bnd (.bnd (getV ρ 4) fun a => .bnd (getV ρ 1) fun b => mulD a b) fun a => .bnd (getV ρ 2) fun b => fdivD a b) fun d => .bnd (.ret []) fun ds => .ret (d :: ds)) fun ds => .ret (d :: ds)) tupD) ρ fun d M => some (.ret d, M))))
theorem s__law_made : FnScope N__law_made ["part", "whole"] (defScope (top 37)) := ⟨by kernel_rfl, by kernel_rfl, by kernel_rfl, nd_of (by kernel_rfl), by kernel_rfl, par_ok (by kernel_rfl), nofree_ok (by kernel_rfl)⟩
noncomputable def m__law_made : List D → Mo D := fnD N__law_made g__law_made
theorem b__law_made (G : Gl T ad fo ct) {k : Nat} (hk : 0 ≤ k) (Wx : WX) : BX (T.sc N__law_made (defScope (top 37)) k Wx (fo "_law_made").code) (defBody (top 37)) g__law_made := by
  have nd : (T.sc N__law_made (defScope (top 37)) k Wx (fo "_law_made").code).N.Nodup := s__law_made.nd
  unfold g__law_made l1__law_made
  exact bx_cons (sx_par 2 3 nd (ax_cons (ex_callB cx_abs rfl G.n_abs rfl (ax_cons (ex_var 0) (ax_nil))) (ax_cons (ex_callB cx_abs rfl G.n_abs rfl (ax_cons (ex_var 1) (ax_nil))) (ax_nil))) (hw := fun X c => (sws_sc c _ _).trans (by kernel_rfl)))
      (bx_cons (sx_while 1000 rfl (tx_cmp ox_gt (ex_var 3) (ex_int))
      (bx_one (sx_par 2 3 nd (ax_cons (ex_var 3) (ax_cons (ex_op ox_mod (ex_var 2) (ex_var 3)) (ax_nil))) (hw := fun X c => (sws_sc c _ _).trans (by kernel_rfl)))))
      (bx_cons (sx_set 4 nd (ex_if (tx_cmp ox_gt (ex_var 1) (ex_int)) (ex_int) (ex_un ux_neg (ex_int))))
      (bx_one (sx_ret (ex_tup (ax_cons (ex_op ox_fdiv (ex_op ox_mul (ex_var 4) (ex_var 0)) (ex_var 2)) (ax_cons (ex_op ox_fdiv (ex_op ox_mul (ex_var 4) (ex_var 1)) (ex_var 2)) (ax_nil))))))))
theorem h__law_made (G : Gl T ad fo ct) : FnD T 1 (ad "_law_made") (fo "_law_made") ["part", "whole"] m__law_made := fnd_of G.f__law_made.1 s__law_made fun Wx => b__law_made G (Nat.le_refl _) Wx
/-- _law_plus -/
def N__law_plus : List Str := ["one", "other"]
noncomputable def g__law_plus : Sn := fun ρ => sE (.bnd (.bnd (.bnd (.bnd (.bnd (getV ρ 0) fun a => .bnd (.ret (.int 0)) fun b => subD' a b) fun a => .bnd (.bnd (getV ρ 1) fun a => .bnd (.ret (.int 1)) fun b => subD' a b) fun b => mulD a b) fun a => .bnd (.bnd (.bnd (getV ρ 1) fun a => .bnd (.ret (.int 0)) fun b => subD' a b) fun a => .bnd (.bnd (getV ρ 0) fun a => .bnd (.ret (.int 1)) fun b => subD' a b) fun b => mulD a b) fun b => addD a b) fun d => .bnd (.bnd (.bnd (.bnd (getV ρ 0) fun a => .bnd (.ret (.int 1)) fun b => subD' a b) fun a => .bnd (.bnd (getV ρ 1) fun a => .bnd (.ret (.int 1)) fun b => subD' a b) fun b => mulD a b) fun d => .bnd (.ret []) fun ds => .ret (d :: ds)) fun ds => .ret (d :: ds)) (m__law_made)) ρ fun d M => some (.ret d, M)
theorem s__law_plus : FnScope N__law_plus ["one", "other"] (defScope (top 38)) := ⟨by kernel_rfl, by kernel_rfl, by kernel_rfl, nd_of (by kernel_rfl), by kernel_rfl, par_ok (by kernel_rfl), nofree_ok (by kernel_rfl)⟩
noncomputable def m__law_plus : List D → Mo D := fnD N__law_plus g__law_plus
theorem b__law_plus (G : Gl T ad fo ct) {k : Nat} (hk : 1 ≤ k) (Wx : WX) : BX (T.sc N__law_plus (defScope (top 38)) k Wx (fo "_law_plus").code) (defBody (top 38)) g__law_plus := by
  have nd : (T.sc N__law_plus (defScope (top 38)) k Wx (fo "_law_plus").code).N.Nodup := s__law_plus.nd
  have H__law_made := h__law_made (T := T) G
  unfold g__law_plus
  exact bx_one (sx_ret (ex_call H__law_made (show 1 ≤ k by omega) rfl G.f__law_made.2.1 G.f__law_made.2.2.1 G.f__law_made.2.2.2 (ax_cons (ex_op ox_add (ex_op ox_mul (ex_sub (ex_var 0) (ex_int)) (ex_sub (ex_var 1) (ex_int))) (ex_op ox_mul (ex_sub (ex_var 1) (ex_int)) (ex_sub (ex_var 0) (ex_int)))) (ax_cons (ex_op ox_mul (ex_sub (ex_var 0) (ex_int)) (ex_sub (ex_var 1) (ex_int))) (ax_nil))) (fun _ _ _ _ h => len_cons (n := 1) (len_cons (n := 0) ln0) _ _ _ h)))
theorem h__law_plus (G : Gl T ad fo ct) : FnD T 2 (ad "_law_plus") (fo "_law_plus") ["one", "other"] m__law_plus := fnd_of G.f__law_plus.1 s__law_plus fun Wx => b__law_plus G (Nat.le_refl _) Wx
/-- _law_system -/
def N__law_system : List Str := ["draws", "rows", "columns", "many", "k", "j", "table", "number", "entries", "right"]
noncomputable def l1__law_system : Sn := sIf (fun ρ => .bnd (.bnd (.bnd (.bnd (getV ρ 0) fun d => .bnd (.bnd (.ret (.int 100)) fun d => .bnd (.ret []) fun ds => .ret (d :: ds)) fun ds => .ret (d :: ds)) (m__law_take)) fun a => .bnd (getV ρ 3) fun b => ltD a b) boolD)
      (sSeq (fun ρ => sE (.bnd (.bnd (.bnd (getV ρ 0) fun d => .bnd (.bnd (.ret (.int 9)) fun d => .bnd (.ret []) fun ds => .ret (d :: ds)) fun ds => .ret (d :: ds)) (m__law_take)) fun a => .bnd (.ret (.int 4)) fun b => subD a b) ρ fun d M => some (.nx (ρ.set 7 (some d)), M))
      (sIf (fun ρ => .bnd (.bnd (getV ρ 7) fun a => .bnd (.ret (.int 0)) fun b => neD a b) boolD)
      (fun ρ => sE (.bnd (.bnd (getV ρ 7) fun d => .bnd (.bnd (.bnd (.ret (.int 1)) fun a => .bnd (.bnd (.bnd (.bnd (getV ρ 0) fun d => .bnd (.bnd (.ret (.int 2)) fun d => .bnd (.ret []) fun ds => .ret (d :: ds)) fun ds => .ret (d :: ds)) (m__law_take)) fun a => .bnd (.bnd (.bnd (getV ρ 0) fun d => .bnd (.bnd (.ret (.int 2)) fun d => .bnd (.ret []) fun ds => .ret (d :: ds)) fun ds => .ret (d :: ds)) (m__law_take)) fun b => mulD a b) fun b => addD a b) fun d => .bnd (.ret []) fun ds => .ret (d :: ds)) fun ds => .ret (d :: ds)) tupD) ρ fun d => s0 (.bnd (getV ρ 6) fun a => .bnd (.bnd (.bnd (getV ρ 4) fun d => .bnd (.bnd (getV ρ 5) fun d => .bnd (.ret []) fun ds => .ret (d :: ds)) fun ds => .ret (d :: ds)) tupD) fun b => storeM a b d ρ))
      (sNext)))
      (sNext)
noncomputable def l2__law_system : Sn := sFor (fun ρ => .bnd (.bnd (getV ρ 2) fun d => .bnd (.ret []) fun ds => .ret (d :: ds)) rngD1) (fun d ρ => .ret (ρ.set 5 (some d))) l1__law_system
noncomputable def l3__law_system : Sn := fun ρ => sE (.bnd (.bnd (.bnd (getV ρ 6) fun a => chkM isDc a (.bnd (.bnd (.bnd (.bnd (.ret (.int 0)) fun d => .bnd (.bnd (getV ρ 5) fun d => .bnd (.ret []) fun ds => .ret (d :: ds)) fun ds => .ret (d :: ds)) tupD) fun d => .bnd (.bnd (.bnd (.bnd (.ret (.int 0)) fun d => .bnd (.bnd (.ret (.int 1)) fun d => .bnd (.ret []) fun ds => .ret (d :: ds)) fun ds => .ret (d :: ds)) tupD) fun d => .bnd (.ret []) fun ds => .ret (d :: ds)) fun ds => .ret (d :: ds)) fun ds => getD' a ds)) fun d => .bnd (.bnd (.bnd (getV ρ 6) fun a => chkM isDc a (.bnd (.bnd (.bnd (.bnd (.ret (.int 1)) fun d => .bnd (.bnd (getV ρ 5) fun d => .bnd (.ret []) fun ds => .ret (d :: ds)) fun ds => .ret (d :: ds)) tupD) fun d => .bnd (.bnd (.bnd (.bnd (.ret (.int 0)) fun d => .bnd (.bnd (.ret (.int 1)) fun d => .bnd (.ret []) fun ds => .ret (d :: ds)) fun ds => .ret (d :: ds)) tupD) fun d => .bnd (.ret []) fun ds => .ret (d :: ds)) fun ds => .ret (d :: ds)) fun ds => getD' a ds)) fun d => .bnd (.ret []) fun ds => .ret (d :: ds)) fun ds => .ret (d :: ds)) (m__law_plus)) ρ fun d => s0 (.bnd (getV ρ 6) fun a => .bnd (.bnd (.bnd (.bnd (getV ρ 1) fun a => .bnd (.ret (.int 1)) fun b => subD a b) fun d => .bnd (.bnd (getV ρ 5) fun d => .bnd (.ret []) fun ds => .ret (d :: ds)) fun ds => .ret (d :: ds)) tupD) fun b => storeM a b d ρ)
noncomputable def g__law_system : Sn := sSeq (fun ρ => sE (finDO true (.dct true []) (.dct true [])) ρ fun d M => some (.nx (ρ.set 6 (some d)), M))
      (sSeq (sFor (fun ρ => .bnd (.bnd (getV ρ 1) fun d => .bnd (.ret []) fun ds => .ret (d :: ds)) rngD1) (fun d ρ => .ret (ρ.set 4 (some d))) l2__law_system)
      (sSeq (sIf (fun ρ => .bnd (.bnd (.bnd (getV ρ 1) fun a => .bnd (.ret (.int 2)) fun b => gtD a b) boolD) fun z => cond z (.bnd (.bnd (.bnd (.bnd (getV ρ 0) fun d => .bnd (.bnd (.ret (.int 3)) fun d => .bnd (.ret []) fun ds => .ret (d :: ds)) fun ds => .ret (d :: ds)) (m__law_take)) fun a => .bnd (.ret (.int 0)) fun b => eqD a b) boolD) (.ret false))
      (sFor (fun ρ => .bnd (.bnd (getV ρ 2) fun d => .bnd (.ret []) fun ds => .ret (d :: ds)) rngD1) (fun d ρ => .ret (ρ.set 5 (some d))) l3__law_system)
      (sNext))
      (sSeq (fun ρ => sE (.bnd (.bnd (.bnd (.bnd (.bnd (.bnd (.bnd (.bnd (getV ρ 6) fun d => .bnd (.ret []) fun ds => .ret (d :: ds)) (arg1 (listA false))) fun d => .bnd (.ret []) fun ds => .ret (d :: ds)) (arg1 (sortedD false))) itD) fun it => cmpD false stL [] .lst .lst (compL it.gd (turn1 (wipeR ρ [4, 5]) (fun d ρ => .bnd (itemsT 2 d) fun ds => (gConsD (fun d ρ => .ret (ρ.set 4 (some d))) (gConsD (fun d ρ => .ret (ρ.set 5 (some d))) gNilD)) ds ρ) (fun ρ => .bnd (.bnd (.bnd (.bnd (getV ρ 6) fun a => .bnd (.bnd (.bnd (getV ρ 4) fun d => .bnd (.bnd (getV ρ 5) fun d => .bnd (.ret []) fun ds => .ret (d :: ds)) fun ds => .ret (d :: ds)) tupD) fun b => subD' a b) fun a => .bnd (.ret (.int 0)) fun b => subD' a b) fun a => .bnd (.ret (.int 0)) fun b => neD a b) boolD) (one' fun ρ => .bnd (.bnd (getV ρ 4) fun d => .bnd (.bnd (getV ρ 5) fun d => .bnd (.bnd (.bnd (.bnd (.bnd (.bnd (getV ρ 6) fun a => .bnd (.bnd (.bnd (getV ρ 4) fun d => .bnd (.bnd (getV ρ 5) fun d => .bnd (.ret []) fun ds => .ret (d :: ds)) fun ds => .ret (d :: ds)) tupD) fun b => subD' a b) fun a => .bnd (.ret (.int 0)) fun b => subD' a b) fun d => .bnd (.bnd (.bnd (.bnd (getV ρ 6) fun a => .bnd (.bnd (.bnd (getV ρ 4) fun d => .bnd (.bnd (getV ρ 5) fun d => .bnd (.ret []) fun ds => .ret (d :: ds)) fun ds => .ret (d :: ds)) tupD) fun b => subD' a b) fun a => .bnd (.ret (.int 1)) fun b => subD' a b) fun d => .bnd (.ret []) fun ds => .ret (d :: ds)) fun ds => .ret (d :: ds)) (m__law_made)) fun d => .bnd (.ret []) fun ds => .ret (d :: ds)) fun ds => .ret (d :: ds)) fun ds => .ret (d :: ds)) tupD)) it.items)) fun d => .bnd (.ret []) fun ds => .ret (d :: ds)) (arg1 tupleD)) ρ fun d M => some (.nx (ρ.set 8 (some d)), M))
      (sSeq (fun ρ => sE (.bnd (.bnd (.bnd (.bnd (.bnd (getV ρ 1) fun d => .bnd (.ret []) fun ds => .ret (d :: ds)) rngD1) fun it => cmpD false stL [] .lst .lst (compL it.gd (turn1 (wipeR ρ [4]) (fun d ρ => .ret (ρ.set 4 (some d))) (fun _ => .ret true) (one' fun ρ => .bnd (.bnd (.bnd (.bnd (.bnd (getV ρ 0) fun d => .bnd (.bnd (.ret (.int 9)) fun d => .bnd (.ret []) fun ds => .ret (d :: ds)) fun ds => .ret (d :: ds)) (m__law_take)) fun a => .bnd (.ret (.int 4)) fun b => subD a b) fun d => .bnd (.bnd (.ret (.int 1)) fun d => .bnd (.ret []) fun ds => .ret (d :: ds)) fun ds => .ret (d :: ds)) tupD)) it.items)) fun d => .bnd (.ret []) fun ds => .ret (d :: ds)) (arg1 tupleD)) ρ fun d M => some (.nx (ρ.set 9 (some d)), M))
      (fun ρ => sE (.bnd (.bnd (.bnd (.bnd (getV ρ 1) fun d => .bnd (.bnd (getV ρ 2) fun d => .bnd (.bnd (getV ρ 8) fun d => .bnd (.ret []) fun ds => .ret (d :: ds)) fun ds => .ret (d :: ds)) fun ds => .ret (d :: ds)) tupD) fun d => .bnd (.bnd (getV ρ 9) fun d => .bnd (.ret []) fun ds => .ret (d :: ds)) fun ds => .ret (d :: ds)) tupD) ρ fun d M => some (.ret d, M))))))
theorem s__law_system : FnScope N__law_system ["draws", "rows", "columns", "many"] (defScope (top 39)) := ⟨by kernel_rfl, by kernel_rfl, by kernel_rfl, nd_of (by kernel_rfl), by kernel_rfl, par_ok (by kernel_rfl), nofree_ok (by kernel_rfl)⟩
noncomputable def m__law_system : List D → Mo D := fnD N__law_system g__law_system
theorem b__law_system (G : Gl T ad fo ct) {k : Nat} (hk : 2 ≤ k) (Wx : WX) : BX (T.sc N__law_system (defScope (top 39)) k Wx (fo "_law_system").code) (defBody (top 39)) g__law_system := by
  have nd : (T.sc N__law_system (defScope (top 39)) k Wx (fo "_law_system").code).N.Nodup := s__law_system.nd
  have H__law_made := h__law_made (T := T) G
  have H__law_plus := h__law_plus (T := T) G
  have H__law_take := h__law_take (T := T) G
  unfold g__law_system l3__law_system l2__law_system l1__law_system
  exact bx_cons (sx_set 6 nd (ex_dict0 true true))
      (bx_cons (sx_for rfl (ix_range1 rfl G.n_range (ax_cons (ex_var 1) (ax_nil))) (gx_name 4 nd)
      (bx_one (sx_for rfl (ix_range1 rfl G.n_range (ax_cons (ex_var 2) (ax_nil))) (gx_name 5 nd)
      (bx_one (sx_if (tx_cmp ox_lt (ex_call H__law_take (show 1 ≤ k by omega) rfl G.f__law_take.2.1 G.f__law_take.2.2.1 G.f__law_take.2.2.2 (ax_cons (ex_var 0) (ax_cons (ex_int) (ax_nil))) (fun _ _ _ _ h => len_cons (n := 1) (len_cons (n := 0) ln0) _ _ _ h)) (ex_var 3))
      (bx_cons (sx_set 7 nd (ex_op ox_sub (ex_call H__law_take (show 1 ≤ k by omega) rfl G.f__law_take.2.1 G.f__law_take.2.2.1 G.f__law_take.2.2.2 (ax_cons (ex_var 0) (ax_cons (ex_int) (ax_nil))) (fun _ _ _ _ h => len_cons (n := 1) (len_cons (n := 0) ln0) _ _ _ h)) (ex_int)))
      (bx_one (sx_if (tx_cmp ox_ne (ex_var 7) (ex_int))
      (bx_one (sx_asg (ex_tup (ax_cons (ex_var 7) (ax_cons (ex_op ox_add (ex_int) (ex_op ox_mul (ex_call H__law_take (show 1 ≤ k by omega) rfl G.f__law_take.2.1 G.f__law_take.2.2.1 G.f__law_take.2.2.2 (ax_cons (ex_var 0) (ax_cons (ex_int) (ax_nil))) (fun _ _ _ _ h => len_cons (n := 1) (len_cons (n := 0) ln0) _ _ _ h)) (ex_call H__law_take (show 1 ≤ k by omega) rfl G.f__law_take.2.1 G.f__law_take.2.2.1 G.f__law_take.2.2.2 (ax_cons (ex_var 0) (ax_cons (ex_int) (ax_nil))) (fun _ _ _ _ h => len_cons (n := 1) (len_cons (n := 0) ln0) _ _ _ h)))) (ax_nil)))) (gx_sub (ex_var 6) (ex_tup (ax_cons (ex_var 4) (ax_cons (ex_var 5) (ax_nil)))))))
      (bx_nil))))
      (bx_nil))))))
      (bx_cons (sx_if (tx_w (wx_and (tx_cmp ox_gt (ex_var 1) (ex_int)) (wx_and1 (tx_cmp ox_eq (ex_call H__law_take (show 1 ≤ k by omega) rfl G.f__law_take.2.1 G.f__law_take.2.2.1 G.f__law_take.2.2.2 (ax_cons (ex_var 0) (ax_cons (ex_int) (ax_nil))) (fun _ _ _ _ h => len_cons (n := 1) (len_cons (n := 0) ln0) _ _ _ h)) (ex_int)))))
      (bx_one (sx_for rfl (ix_range1 rfl G.n_range (ax_cons (ex_var 2) (ax_nil))) (gx_name 5 nd)
      (bx_one (sx_asg (ex_call H__law_plus (show 2 ≤ k by omega) rfl G.f__law_plus.2.1 G.f__law_plus.2.2.1 G.f__law_plus.2.2.2 (ax_cons (ex_meth mx_get (ex_var 6) (ax_cons (ex_tup (ax_cons (ex_int) (ax_cons (ex_var 5) (ax_nil)))) (ax_cons (ex_tup (ax_cons (ex_int) (ax_cons (ex_int) (ax_nil)))) (ax_nil)))) (ax_cons (ex_meth mx_get (ex_var 6) (ax_cons (ex_tup (ax_cons (ex_int) (ax_cons (ex_var 5) (ax_nil)))) (ax_cons (ex_tup (ax_cons (ex_int) (ax_cons (ex_int) (ax_nil)))) (ax_nil)))) (ax_nil))) (fun _ _ _ _ h => len_cons (n := 1) (len_cons (n := 0) ln0) _ _ _ h)) (gx_sub (ex_var 6) (ex_tup (ax_cons (ex_op ox_sub (ex_var 1) (ex_int)) (ax_cons (ex_var 5) (ax_nil)))))))))
      (bx_nil))
      (bx_cons (sx_set 8 nd (ex_callTy cx_tuple rfl G.n_tuple rfl (ax_cons (ex_lx (lx_l1 false [("k", 4), ("j", 5)]  nd (blk_ok (by kernel_rfl))  (ix_all (ex_callB (cx_sorted false) rfl G.n_sorted rfl (ax_cons (ex_callTy (cx_listA false) rfl G.n_list rfl (ax_cons (ex_var 6) (ax_nil))) (ax_nil)))) (gv_tup (n := 2) (gvs_cons (gv_name 4 nd) (gvs_cons (gv_name 5 nd) (gvs_nil)))) (txs_one (tx_cmp ox_ne (ex_sub (ex_sub (ex_var 6) (ex_tup (ax_cons (ex_var 4) (ax_cons (ex_var 5) (ax_nil))))) (ex_int)) (ex_int)))  (ex_tup (ax_cons (ex_var 4) (ax_cons (ex_var 5) (ax_cons (ex_call H__law_made (show 1 ≤ k by omega) rfl G.f__law_made.2.1 G.f__law_made.2.2.1 G.f__law_made.2.2.2 (ax_cons (ex_sub (ex_sub (ex_var 6) (ex_tup (ax_cons (ex_var 4) (ax_cons (ex_var 5) (ax_nil))))) (ex_int)) (ax_cons (ex_sub (ex_sub (ex_var 6) (ex_tup (ax_cons (ex_var 4) (ax_cons (ex_var 5) (ax_nil))))) (ex_int)) (ax_nil))) (fun _ _ _ _ h => len_cons (n := 1) (len_cons (n := 0) ln0) _ _ _ h)) (ax_nil))))))) (ax_nil))))
      (bx_cons (sx_set 9 nd (ex_callTy cx_tuple rfl G.n_tuple rfl (ax_cons (ex_lx (lx_l1 false [("k", 4)]  nd (blk_ok (by kernel_rfl))  (ix_range1 rfl G.n_range (ax_cons (ex_var 1) (ax_nil))) (gv_name 4 nd) (txs_nil)  (ex_tup (ax_cons (ex_op ox_sub (ex_call H__law_take (show 1 ≤ k by omega) rfl G.f__law_take.2.1 G.f__law_take.2.2.1 G.f__law_take.2.2.2 (ax_cons (ex_var 0) (ax_cons (ex_int) (ax_nil))) (fun _ _ _ _ h => len_cons (n := 1) (len_cons (n := 0) ln0) _ _ _ h)) (ex_int)) (ax_cons (ex_int) (ax_nil)))))) (ax_nil))))
      (bx_one (sx_ret (ex_tup (ax_cons (ex_tup (ax_cons (ex_var 1) (ax_cons (ex_var 2) (ax_cons (ex_var 8) (ax_nil))))) (ax_cons (ex_var 9) (ax_nil))))))))))
theorem h__law_system (G : Gl T ad fo ct) : FnD T 3 (ad "_law_system") (fo "_law_system") ["draws", "rows", "columns", "many"] m__law_system := fnd_of G.f__law_system.1 s__law_system fun Wx => b__law_system G (Nat.le_refl _) Wx
/-- law -/
def N_law : List Str := ["script", "k", "j", "value", "one", "c", "draws", "m", "n", "matrix", "pattern", "places", "lines", "graph", "near", "both", "odd"]
noncomputable def l1_law : Sn := fun ρ => sE (.bnd (getV ρ 12) fun a => .bnd (.bnd (.bnd (.bnd (.bnd (getV ρ 2) fun a => .bnd (.ret (.int 1)) fun b => addD a b) fun d => .bnd (.bnd (.bnd (getV ρ 9) fun a => .bnd (.ret (.int 1)) fun b => subD' a b) fun d => .bnd (.ret []) fun ds => .ret (d :: ds)) fun ds => .ret (d :: ds)) rngD2) fun it => cmpD false stL [] .lst .lst (compL it.gd (turn1 (wipeR ρ [5]) (fun d ρ => .ret (ρ.set 5 (some d))) (fun ρ => .bnd (.bnd (.bnd (.bnd (.bnd (.bnd (getV ρ 9) fun a => .bnd (.ret (.int 0)) fun b => subD' a b) fun d => .bnd (.ret []) fun ds => .ret (d :: ds)) rngD1) fun it => cmpD false stL [] .lst .lst (compL it.gd (turn1 (wipeR ρ [1]) (fun d ρ => .ret (ρ.set 1 (some d))) (fun ρ => .bnd (.bnd (.bnd (.bnd (.bnd (getV ρ 1) fun d => .bnd (.bnd (getV ρ 2) fun d => .bnd (.ret []) fun ds => .ret (d :: ds)) fun ds => .ret (d :: ds)) tupD) fun a => .bnd (getV ρ 11) fun b => inAll a b) boolD) fun z => cond z (.bnd (.bnd (.bnd (.bnd (getV ρ 1) fun d => .bnd (.bnd (getV ρ 5) fun d => .bnd (.ret []) fun ds => .ret (d :: ds)) fun ds => .ret (d :: ds)) tupD) fun a => .bnd (getV ρ 11) fun b => inAll a b) boolD) (.ret false)) (one' fun ρ => getV ρ 1)) it.items)) fun a => .bnd (.bnd (.ret []) lstD) fun b => neD a b) boolD) (one' fun ρ => .bnd (.bnd (getV ρ 2) fun d => .bnd (.bnd (getV ρ 5) fun d => .bnd (.ret []) fun ds => .ret (d :: ds)) fun ds => .ret (d :: ds)) tupD)) it.items)) fun b => addD a b) ρ fun d M => some (.nx (ρ.set 12 (some d)), M)
noncomputable def l2_law : Sn := sSeq (fun ρ => sE (.bnd (.bnd (getV ρ 9) fun d => .bnd (.ret []) fun ds => .ret (d :: ds)) (m_pattern_of)) ρ fun d M => some (.nx (ρ.set 10 (some d)), M))
      (sSeq (fun ρ => sE (.bnd (.bnd (.bnd (getV ρ 9) fun a => .bnd (.ret (.int 2)) fun b => subD' a b) itD) fun it => cmpD false stL [] .lst .lst (compL it.gd (turn1 (wipeR ρ [1, 2, 3]) (fun d ρ => .bnd (itemsT 3 d) fun ds => (gConsD (fun d ρ => .ret (ρ.set 1 (some d))) (gConsD (fun d ρ => .ret (ρ.set 2 (some d))) (gConsD (fun d ρ => .ret (ρ.set 3 (some d))) gNilD))) ds ρ) (fun _ => .ret true) (one' fun ρ => .bnd (.bnd (getV ρ 1) fun d => .bnd (.bnd (getV ρ 2) fun d => .bnd (.ret []) fun ds => .ret (d :: ds)) fun ds => .ret (d :: ds)) tupD)) it.items)) ρ fun d M => some (.nx (ρ.set 11 (some d)), M))
      (sSeq (sIf (fun ρ => .bnd (.bnd (.bnd (.bnd (.bnd (getV ρ 10) fun d => .bnd (.bnd (.bnd (.bnd (.bnd (getV ρ 9) fun a => .bnd (.ret (.int 0)) fun b => subD' a b) fun d => .bnd (.bnd (.bnd (getV ρ 9) fun a => .bnd (.ret (.int 1)) fun b => subD' a b) fun d => .bnd (.bnd (.bnd (.bnd (getV ρ 11) fun d => .bnd (.ret []) fun ds => .ret (d :: ds)) (arg1 tupleD)) fun d => .bnd (.ret []) fun ds => .ret (d :: ds)) fun ds => .ret (d :: ds)) fun ds => .ret (d :: ds)) tupD) fun d => .bnd (.ret []) fun ds => .ret (d :: ds)) fun ds => .ret (d :: ds)) (m__law_alike 9)) boolD) fun b => .ret (!b)) fun z => cond z (.ret true) (.bnd (.bnd (.bnd (.bnd (getV ρ 10) fun d => .bnd (.ret []) fun ds => .ret (d :: ds)) (m_is_pattern)) fun a => .bnd (.ret (.bl true)) fun b => isnD a b) boolD))
      (fun ρ => sE (.ret (.bl false)) ρ fun d M => some (.ret d, M))
      (sNext))
      (sSeq (fun ρ => sE (.bnd (.ret []) lstD) ρ fun d M => some (.nx (ρ.set 12 (some d)), M))
      (sSeq (sFor (fun ρ => .bnd (.bnd (.bnd (getV ρ 9) fun a => .bnd (.ret (.int 1)) fun b => subD' a b) fun d => .bnd (.ret []) fun ds => .ret (d :: ds)) rngD1) (fun d ρ => .ret (ρ.set 2 (some d))) l1_law)
      (sSeq (fun ρ => sE (.bnd (.bnd (getV ρ 10) fun d => .bnd (.ret []) fun ds => .ret (d :: ds)) (m_column_graph)) ρ fun d M => some (.nx (ρ.set 13 (some d)), M))
      (sSeq (sIf (fun ρ => .bnd (.bnd (.bnd (.bnd (.bnd (getV ρ 13) fun d => .bnd (.bnd (.bnd (.bnd (.bnd (getV ρ 9) fun a => .bnd (.ret (.int 1)) fun b => subD' a b) fun d => .bnd (.bnd (.bnd (.bnd (getV ρ 12) fun d => .bnd (.ret []) fun ds => .ret (d :: ds)) (arg1 tupleD)) fun d => .bnd (.ret []) fun ds => .ret (d :: ds)) fun ds => .ret (d :: ds)) tupD) fun d => .bnd (.ret []) fun ds => .ret (d :: ds)) fun ds => .ret (d :: ds)) (m__law_alike 9)) boolD) fun b => .ret (!b)) fun z => cond z (.ret true) (.bnd (.bnd (.bnd (.bnd (getV ρ 13) fun d => .bnd (.ret []) fun ds => .ret (d :: ds)) (m_is_graph)) fun a => .bnd (.ret (.bl true)) fun b => isnD a b) boolD))
      (fun ρ => sE (.ret (.bl false)) ρ fun d M => some (.ret d, M))
      (sNext))
      (sSeq (fun ρ => sE (.bnd (.bnd (getV ρ 13) fun d => .bnd (.ret []) fun ds => .ret (d :: ds)) (m_neighbours)) ρ fun d M => some (.nx (ρ.set 14 (some d)), M))
      (sIf (fun ρ => .bnd (.bnd (.bnd (.bnd (getV ρ 14) itD) fun it => cmpD false stL [] .lst .lst (compL it.gd (turn1 (wipeR ρ [4]) (fun d ρ => .ret (ρ.set 4 (some d))) (fun _ => .ret true) (one' fun ρ => .bnd (.bnd (.bnd (.bnd (getV ρ 4) fun d => .bnd (.ret []) fun ds => .ret (d :: ds)) (arg1 (listA false))) fun d => .bnd (.ret []) fun ds => .ret (d :: ds)) (arg1 (sortedD false)))) it.items)) fun a => .bnd (.bnd (.bnd (.bnd (.bnd (getV ρ 9) fun a => .bnd (.ret (.int 1)) fun b => subD' a b) fun d => .bnd (.ret []) fun ds => .ret (d :: ds)) rngD1) fun it => cmpD false stL [] .lst .lst (compL it.gd (turn1 (wipeR ρ [2]) (fun d ρ => .ret (ρ.set 2 (some d))) (fun _ => .ret true) (one' fun ρ => .bnd (.bnd (.bnd (.bnd (getV ρ 9) fun a => .bnd (.ret (.int 1)) fun b => subD' a b) fun d => .bnd (.ret []) fun ds => .ret (d :: ds)) rngD1) fun it => cmpD false stL [] .lst .lst (compL it.gd (turn1 (wipeR ρ [5]) (fun d ρ => .ret (ρ.set 5 (some d))) (fun ρ => .bnd (.bnd (.bnd (.bnd (.bnd (.bnd (getV ρ 2) fun d => .bnd (.bnd (getV ρ 5) fun d => .bnd (.ret []) fun ds => .ret (d :: ds)) fun ds => .ret (d :: ds)) (arg2 minD2)) fun d => .bnd (.bnd (.bnd (.bnd (getV ρ 2) fun d => .bnd (.bnd (getV ρ 5) fun d => .bnd (.ret []) fun ds => .ret (d :: ds)) fun ds => .ret (d :: ds)) (arg2 maxD2)) fun d => .bnd (.ret []) fun ds => .ret (d :: ds)) fun ds => .ret (d :: ds)) tupD) fun a => .bnd (getV ρ 12) fun b => inAll a b) boolD) (one' fun ρ => getV ρ 5)) it.items))) it.items)) fun b => neD a b) boolD)
      (fun ρ => sE (.ret (.bl false)) ρ fun d M => some (.ret d, M))
      (sNext)))))))))
noncomputable def l3_law : Sn := fun ρ => sE (.bnd (getV ρ 12) fun a => .bnd (.bnd (.bnd (.bnd (.bnd (getV ρ 2) fun a => .bnd (.ret (.int 1)) fun b => addD a b) fun d => .bnd (.bnd (getV ρ 8) fun d => .bnd (.ret []) fun ds => .ret (d :: ds)) fun ds => .ret (d :: ds)) rngD2) fun it => cmpD false stL [] .lst .lst (compL it.gd (turn1 (wipeR ρ [5]) (fun d ρ => .ret (ρ.set 5 (some d))) (fun ρ => .bnd (.bnd (.bnd (.bnd (.bnd (getV ρ 2) fun d => .bnd (.bnd (getV ρ 5) fun d => .bnd (.ret []) fun ds => .ret (d :: ds)) fun ds => .ret (d :: ds)) tupD) fun a => .bnd (getV ρ 11) fun b => inAll a b) boolD) fun z => cond z (.ret true) (.bnd (.bnd (.bnd (.bnd (getV ρ 5) fun d => .bnd (.bnd (getV ρ 2) fun d => .bnd (.ret []) fun ds => .ret (d :: ds)) fun ds => .ret (d :: ds)) tupD) fun a => .bnd (getV ρ 11) fun b => inAll a b) boolD)) (one' fun ρ => .bnd (.bnd (getV ρ 2) fun d => .bnd (.bnd (getV ρ 5) fun d => .bnd (.ret []) fun ds => .ret (d :: ds)) fun ds => .ret (d :: ds)) tupD)) it.items)) fun b => addD a b) ρ fun d M => some (.nx (ρ.set 12 (some d)), M)
noncomputable def g_law : Sn := sSeq (fun ρ => sE (.bnd (.bnd (getV ρ 0) fun d => .bnd (.ret []) fun ds => .ret (d :: ds)) (m__law_draws)) ρ fun d M => some (.nx (ρ.set 6 (some d)), M))
      (sSeq (fun ρ => sE (.bnd (.bnd (.ret (.int 1)) fun a => .bnd (.bnd (.bnd (getV ρ 6) fun d => .bnd (.bnd (.ret (.int 6)) fun d => .bnd (.ret []) fun ds => .ret (d :: ds)) fun ds => .ret (d :: ds)) (m__law_take)) fun b => addD a b) fun d => .bnd (.bnd (.bnd (.ret (.int 1)) fun a => .bnd (.bnd (.bnd (getV ρ 6) fun d => .bnd (.bnd (.ret (.int 6)) fun d => .bnd (.ret []) fun ds => .ret (d :: ds)) fun ds => .ret (d :: ds)) (m__law_take)) fun b => addD a b) fun d => .bnd (.ret []) fun ds => .ret (d :: ds)) fun ds => .ret (d :: ds)) ρ (par2 7 8 ρ))
      (sSeq (sFor (fun ρ => .bnd (.bnd (.bnd (.bnd (.bnd (.bnd (getV ρ 6) fun d => .bnd (.bnd (getV ρ 7) fun d => .bnd (.bnd (getV ρ 8) fun d => .bnd (.bnd (.ret (.int 35)) fun d => .bnd (.ret []) fun ds => .ret (d :: ds)) fun ds => .ret (d :: ds)) fun ds => .ret (d :: ds)) fun ds => .ret (d :: ds)) (m__law_system)) fun a => .bnd (.ret (.int 0)) fun b => subD' a b) fun d => .bnd (.bnd (.bnd (.bnd (.bnd (getV ρ 6) fun d => .bnd (.bnd (getV ρ 8) fun d => .bnd (.bnd (getV ρ 8) fun d => .bnd (.bnd (.ret (.int 30)) fun d => .bnd (.ret []) fun ds => .ret (d :: ds)) fun ds => .ret (d :: ds)) fun ds => .ret (d :: ds)) fun ds => .ret (d :: ds)) (m__law_system)) fun a => .bnd (.ret (.int 0)) fun b => subD' a b) fun d => .bnd (.ret []) fun ds => .ret (d :: ds)) fun ds => .ret (d :: ds)) lstD) itD) (fun d ρ => .ret (ρ.set 9 (some d))) l2_law)
      (sSeq (fun ρ => sE (.bnd (.ret []) lstD) ρ fun d M => some (.nx (ρ.set 12 (some d)), M))
      (sSeq (sFor (fun ρ => .bnd (.bnd (getV ρ 8) fun d => .bnd (.ret []) fun ds => .ret (d :: ds)) rngD1) (fun d ρ => .ret (ρ.set 2 (some d))) l3_law)
      (sSeq (fun ρ => sE (.bnd (.bnd (getV ρ 9) fun d => .bnd (.bnd (.bnd (.bnd (getV ρ 9) fun d => .bnd (.ret []) fun ds => .ret (d :: ds)) (m_transposed)) fun d => .bnd (.ret []) fun ds => .ret (d :: ds)) fun ds => .ret (d :: ds)) (m_added)) ρ fun d M => some (.nx (ρ.set 15 (some d)), M))
      (sSeq (sIf (fun ρ => .bnd (.bnd (.bnd (.bnd (.bnd (.bnd (.bnd (getV ρ 10) fun d => .bnd (.ret []) fun ds => .ret (d :: ds)) (m_graph_of)) fun d => .bnd (.bnd (.bnd (.bnd (getV ρ 8) fun d => .bnd (.bnd (.bnd (.bnd (getV ρ 12) fun d => .bnd (.ret []) fun ds => .ret (d :: ds)) (arg1 tupleD)) fun d => .bnd (.ret []) fun ds => .ret (d :: ds)) fun ds => .ret (d :: ds)) tupD) fun d => .bnd (.ret []) fun ds => .ret (d :: ds)) fun ds => .ret (d :: ds)) (m__law_alike 9)) boolD) fun b => .ret (!b)) fun z => cond z (.ret true) (.bnd (.bnd (.bnd (.bnd (.bnd (.bnd (.bnd (getV ρ 9) fun d => .bnd (.ret []) fun ds => .ret (d :: ds)) (m_is_symmetric)) fun d => .bnd (.bnd (.bnd (.bnd (.bnd (getV ρ 9) fun d => .bnd (.ret []) fun ds => .ret (d :: ds)) (m_transposed)) fun a => .bnd (getV ρ 9) fun b => eqD a b) fun d => .bnd (.ret []) fun ds => .ret (d :: ds)) fun ds => .ret (d :: ds)) (m__law_says)) boolD) fun b => .ret (!b)) fun z => cond z (.ret true) (.bnd (.bnd (.bnd (.bnd (getV ρ 15) fun d => .bnd (.ret []) fun ds => .ret (d :: ds)) (m_is_symmetric)) fun a => .bnd (.ret (.bl true)) fun b => isnD a b) boolD)))
      (fun ρ => sE (.ret (.bl false)) ρ fun d M => some (.ret d, M))
      (sNext))
      (sSeq (sIf (fun ρ => .bnd (.bnd (.bnd (getV ρ 7) fun a => .bnd (getV ρ 8) fun b => neD a b) boolD) fun z => cond z (.bnd (.bnd (.bnd (.bnd (.bnd (.bnd (getV ρ 7) fun d => .bnd (.bnd (getV ρ 8) fun d => .bnd (.bnd (.bnd (.ret []) tupD) fun d => .bnd (.ret []) fun ds => .ret (d :: ds)) fun ds => .ret (d :: ds)) fun ds => .ret (d :: ds)) tupD) fun d => .bnd (.ret []) fun ds => .ret (d :: ds)) (m_is_symmetric)) fun a => .bnd (.ret (.bl false)) fun b => isnD a b) boolD) (.ret false))
      (fun ρ => sE (.ret (.bl false)) ρ fun d M => some (.ret d, M))
      (sNext))
      (sSeq (fun ρ => sE (.bnd (.bnd (.ret .non) fun d => .bnd (.bnd (.bnd (.ret []) lstD) fun d => .bnd (.bnd (.bnd (.bnd (.ret (.int 1)) fun d => .bnd (.bnd (.ret (.int 1)) fun d => .bnd (.ret []) fun ds => .ret (d :: ds)) fun ds => .ret (d :: ds)) tupD) fun d => .bnd (.bnd (.bnd (.bnd (.ret (.int 61)) fun d => .bnd (.bnd (.ret (.int 1)) fun d => .bnd (.bnd (.bnd (.ret []) tupD) fun d => .bnd (.ret []) fun ds => .ret (d :: ds)) fun ds => .ret (d :: ds)) fun ds => .ret (d :: ds)) tupD) fun d => .bnd (.bnd (.bnd (.bnd (.ret (.int 1)) fun d => .bnd (.bnd (.ret (.int 1)) fun d => .bnd (.bnd (.bnd (.bnd (.bnd (.bnd (.ret (.int 0)) fun d => .bnd (.bnd (.ret (.int 1)) fun d => .bnd (.ret []) fun ds => .ret (d :: ds)) fun ds => .ret (d :: ds)) tupD) fun d => .bnd (.ret []) fun ds => .ret (d :: ds)) tupD) fun d => .bnd (.ret []) fun ds => .ret (d :: ds)) fun ds => .ret (d :: ds)) fun ds => .ret (d :: ds)) tupD) fun d => .bnd (.bnd (.bnd (.bnd (.ret (.int 1)) fun d => .bnd (.bnd (.ret (.int 1)) fun d => .bnd (.bnd (.bnd (.bnd (.bnd (.bnd (.ret (.int 0)) fun d => .bnd (.bnd (.ret (.int 0)) fun d => .bnd (.ret []) fun ds => .ret (d :: ds)) fun ds => .ret (d :: ds)) tupD) fun d => .bnd (.bnd (.bnd (.bnd (.ret (.int 0)) fun d => .bnd (.bnd (.ret (.int 0)) fun d => .bnd (.ret []) fun ds => .ret (d :: ds)) fun ds => .ret (d :: ds)) tupD) fun d => .bnd (.ret []) fun ds => .ret (d :: ds)) fun ds => .ret (d :: ds)) tupD) fun d => .bnd (.ret []) fun ds => .ret (d :: ds)) fun ds => .ret (d :: ds)) fun ds => .ret (d :: ds)) tupD) fun d => .bnd (.bnd (.bnd (.bnd (.ret (.int 2)) fun d => .bnd (.bnd (.ret (.int 1)) fun d => .bnd (.bnd (.bnd (.bnd (.bnd (.bnd (.ret (.int 1)) fun d => .bnd (.bnd (.ret (.int 0)) fun d => .bnd (.ret []) fun ds => .ret (d :: ds)) fun ds => .ret (d :: ds)) tupD) fun d => .bnd (.bnd (.bnd (.bnd (.ret (.int 0)) fun d => .bnd (.bnd (.ret (.int 0)) fun d => .bnd (.ret []) fun ds => .ret (d :: ds)) fun ds => .ret (d :: ds)) tupD) fun d => .bnd (.ret []) fun ds => .ret (d :: ds)) fun ds => .ret (d :: ds)) tupD) fun d => .bnd (.ret []) fun ds => .ret (d :: ds)) fun ds => .ret (d :: ds)) fun ds => .ret (d :: ds)) tupD) fun d => .bnd (.bnd (.bnd (.bnd (.ret (.int 1)) fun d => .bnd (.bnd (.ret (.int 1)) fun d => .bnd (.bnd (.bnd (.bnd (.bnd (.bnd (.ret (.int 0)) fun d => .bnd (.ret []) fun ds => .ret (d :: ds)) tupD) fun d => .bnd (.ret []) fun ds => .ret (d :: ds)) tupD) fun d => .bnd (.ret []) fun ds => .ret (d :: ds)) fun ds => .ret (d :: ds)) fun ds => .ret (d :: ds)) tupD) fun d => .bnd (.bnd (.bnd (.bnd (.ret (.int 1)) fun d => .bnd (.bnd (.ret (.int 1)) fun d => .bnd (.bnd (.bnd (.bnd (.bnd (.bnd (.ret (.int 0)) fun d => .bnd (.bnd (.ret (.int 0)) fun d => .bnd (.ret []) fun ds => .ret (d :: ds)) fun ds => .ret (d :: ds)) tupD) fun d => .bnd (.ret []) fun ds => .ret (d :: ds)) lstD) fun d => .bnd (.ret []) fun ds => .ret (d :: ds)) fun ds => .ret (d :: ds)) fun ds => .ret (d :: ds)) tupD) fun d => .bnd (.bnd (.bnd (.bnd (.ret (.int 1)) fun d => .bnd (.bnd (.ret (.bl true)) fun d => .bnd (.bnd (.bnd (.ret []) tupD) fun d => .bnd (.ret []) fun ds => .ret (d :: ds)) fun ds => .ret (d :: ds)) fun ds => .ret (d :: ds)) tupD) fun d => .bnd (.bnd (.bnd (.bnd (.ret (.int 1)) fun d => .bnd (.bnd (.ret (.int 1)) fun d => .bnd (.bnd (.bnd (.bnd (.bnd (.bnd (.ret (.bl false)) fun d => .bnd (.bnd (.ret (.int 0)) fun d => .bnd (.ret []) fun ds => .ret (d :: ds)) fun ds => .ret (d :: ds)) tupD) fun d => .bnd (.ret []) fun ds => .ret (d :: ds)) tupD) fun d => .bnd (.ret []) fun ds => .ret (d :: ds)) fun ds => .ret (d :: ds)) fun ds => .ret (d :: ds)) tupD) fun d => .bnd (.bnd (.ret (.int 5)) fun d => .bnd (.ret []) fun ds => .ret (d :: ds)) fun ds => .ret (d :: ds)) fun ds => .ret (d :: ds)) fun ds => .ret (d :: ds)) fun ds => .ret (d :: ds)) fun ds => .ret (d :: ds)) fun ds => .ret (d :: ds)) fun ds => .ret (d :: ds)) fun ds => .ret (d :: ds)) fun ds => .ret (d :: ds)) fun ds => .ret (d :: ds)) fun ds => .ret (d :: ds)) lstD) ρ fun d M => some (.nx (ρ.set 16 (some d)), M))
      (sSeq (sIf (fun ρ => .bnd (.bnd (.bnd (.bnd (.bnd (getV ρ 16) itD) fun it => cmpD false stL [] .lst .lst (compL it.gd (turn1 (wipeR ρ [3]) (fun d ρ => .ret (ρ.set 3 (some d))) (fun ρ => .bnd (.bnd (.bnd (.bnd (.bnd (.bnd (getV ρ 3) fun d => .bnd (.ret []) fun ds => .ret (d :: ds)) (m_is_pattern)) fun d => .bnd (.bnd (.ret (.bl false)) fun d => .bnd (.ret []) fun ds => .ret (d :: ds)) fun ds => .ret (d :: ds)) (m__law_says)) boolD) fun b => .ret (!b)) (one' fun ρ => getV ρ 3)) it.items)) fun a => .bnd (.bnd (.ret []) lstD) fun b => neD a b) boolD) fun z => cond z (.ret true) (.bnd (.bnd (.bnd (.bnd (.bnd (.bnd (.ret (.int 0)) fun d => .bnd (.bnd (.ret (.int 0)) fun d => .bnd (.bnd (.bnd (.ret []) tupD) fun d => .bnd (.ret []) fun ds => .ret (d :: ds)) fun ds => .ret (d :: ds)) fun ds => .ret (d :: ds)) tupD) fun d => .bnd (.ret []) fun ds => .ret (d :: ds)) (m_is_pattern)) fun a => .bnd (.ret (.bl true)) fun b => isnD a b) boolD))
      (fun ρ => sE (.ret (.bl false)) ρ fun d M => some (.ret d, M))
      (sNext))
      (sSeq (fun ρ => sE (.bnd (.bnd (.ret .non) fun d => .bnd (.bnd (.bnd (.ret []) lstD) fun d => .bnd (.bnd (.bnd (.bnd (.ret (.int 2)) fun d => .bnd (.ret []) fun ds => .ret (d :: ds)) tupD) fun d => .bnd (.bnd (.bnd (.bnd (.ret (.int 61)) fun d => .bnd (.bnd (.bnd (.ret []) tupD) fun d => .bnd (.ret []) fun ds => .ret (d :: ds)) fun ds => .ret (d :: ds)) tupD) fun d => .bnd (.bnd (.bnd (.bnd (.ret (.int 2)) fun d => .bnd (.bnd (.bnd (.bnd (.bnd (.bnd (.ret (.int 1)) fun d => .bnd (.bnd (.ret (.int 0)) fun d => .bnd (.ret []) fun ds => .ret (d :: ds)) fun ds => .ret (d :: ds)) tupD) fun d => .bnd (.ret []) fun ds => .ret (d :: ds)) tupD) fun d => .bnd (.ret []) fun ds => .ret (d :: ds)) fun ds => .ret (d :: ds)) tupD) fun d => .bnd (.bnd (.bnd (.bnd (.ret (.int 2)) fun d => .bnd (.bnd (.bnd (.bnd (.bnd (.bnd (.ret (.int 0)) fun d => .bnd (.bnd (.ret (.int 0)) fun d => .bnd (.ret []) fun ds => .ret (d :: ds)) fun ds => .ret (d :: ds)) tupD) fun d => .bnd (.ret []) fun ds => .ret (d :: ds)) tupD) fun d => .bnd (.ret []) fun ds => .ret (d :: ds)) fun ds => .ret (d :: ds)) tupD) fun d => .bnd (.bnd (.bnd (.bnd (.ret (.int 2)) fun d => .bnd (.bnd (.bnd (.bnd (.bnd (.bnd (.ret (.int 0)) fun d => .bnd (.bnd (.ret (.int 1)) fun d => .bnd (.ret []) fun ds => .ret (d :: ds)) fun ds => .ret (d :: ds)) tupD) fun d => .bnd (.bnd (.bnd (.bnd (.ret (.int 0)) fun d => .bnd (.bnd (.ret (.int 1)) fun d => .bnd (.ret []) fun ds => .ret (d :: ds)) fun ds => .ret (d :: ds)) tupD) fun d => .bnd (.ret []) fun ds => .ret (d :: ds)) fun ds => .ret (d :: ds)) tupD) fun d => .bnd (.ret []) fun ds => .ret (d :: ds)) fun ds => .ret (d :: ds)) tupD) fun d => .bnd (.bnd (.bnd (.bnd (.ret (.int 2)) fun d => .bnd (.bnd (.bnd (.bnd (.bnd (.bnd (.ret (.int 0)) fun d => .bnd (.bnd (.ret (.int 2)) fun d => .bnd (.ret []) fun ds => .ret (d :: ds)) fun ds => .ret (d :: ds)) tupD) fun d => .bnd (.ret []) fun ds => .ret (d :: ds)) tupD) fun d => .bnd (.ret []) fun ds => .ret (d :: ds)) fun ds => .ret (d :: ds)) tupD) fun d => .bnd (.bnd (.bnd (.bnd (.ret (.int 3)) fun d => .bnd (.bnd (.bnd (.bnd (.bnd (.bnd (.ret (.int 1)) fun d => .bnd (.bnd (.ret (.int 2)) fun d => .bnd (.ret []) fun ds => .ret (d :: ds)) fun ds => .ret (d :: ds)) tupD) fun d => .bnd (.bnd (.bnd (.bnd (.ret (.int 0)) fun d => .bnd (.bnd (.ret (.int 1)) fun d => .bnd (.ret []) fun ds => .ret (d :: ds)) fun ds => .ret (d :: ds)) tupD) fun d => .bnd (.ret []) fun ds => .ret (d :: ds)) fun ds => .ret (d :: ds)) tupD) fun d => .bnd (.ret []) fun ds => .ret (d :: ds)) fun ds => .ret (d :: ds)) tupD) fun d => .bnd (.bnd (.bnd (.bnd (.ret (.int 2)) fun d => .bnd (.bnd (.bnd (.bnd (.bnd (.bnd (.ret (.int 0)) fun d => .bnd (.bnd (.ret (.int 1)) fun d => .bnd (.ret []) fun ds => .ret (d :: ds)) fun ds => .ret (d :: ds)) tupD) fun d => .bnd (.ret []) fun ds => .ret (d :: ds)) lstD) fun d => .bnd (.ret []) fun ds => .ret (d :: ds)) fun ds => .ret (d :: ds)) tupD) fun d => .bnd (.bnd (.bnd (.bnd (.ret (.int 2)) fun d => .bnd (.bnd (.bnd (.bnd (.bnd (.bnd (.ret (.bl false)) fun d => .bnd (.bnd (.ret (.int 1)) fun d => .bnd (.ret []) fun ds => .ret (d :: ds)) fun ds => .ret (d :: ds)) tupD) fun d => .bnd (.ret []) fun ds => .ret (d :: ds)) tupD) fun d => .bnd (.ret []) fun ds => .ret (d :: ds)) fun ds => .ret (d :: ds)) tupD) fun d => .bnd (.bnd (.bnd (.bnd (.ret (.bl true)) fun d => .bnd (.bnd (.bnd (.ret []) tupD) fun d => .bnd (.ret []) fun ds => .ret (d :: ds)) fun ds => .ret (d :: ds)) tupD) fun d => .bnd (.bnd (.ret (.int 5)) fun d => .bnd (.ret []) fun ds => .ret (d :: ds)) fun ds => .ret (d :: ds)) fun ds => .ret (d :: ds)) fun ds => .ret (d :: ds)) fun ds => .ret (d :: ds)) fun ds => .ret (d :: ds)) fun ds => .ret (d :: ds)) fun ds => .ret (d :: ds)) fun ds => .ret (d :: ds)) fun ds => .ret (d :: ds)) fun ds => .ret (d :: ds)) fun ds => .ret (d :: ds)) fun ds => .ret (d :: ds)) lstD) ρ fun d M => some (.nx (ρ.set 16 (some d)), M))
      (fun ρ => sE (.bnd (.bnd (.bnd (.bnd (.bnd (getV ρ 16) itD) fun it => cmpD false stL [] .lst .lst (compL it.gd (turn1 (wipeR ρ [3]) (fun d ρ => .ret (ρ.set 3 (some d))) (fun ρ => .bnd (.bnd (.bnd (.bnd (.bnd (.bnd (getV ρ 3) fun d => .bnd (.ret []) fun ds => .ret (d :: ds)) (m_is_graph)) fun d => .bnd (.bnd (.ret (.bl false)) fun d => .bnd (.ret []) fun ds => .ret (d :: ds)) fun ds => .ret (d :: ds)) (m__law_says)) boolD) fun b => .ret (!b)) (one' fun ρ => getV ρ 3)) it.items)) fun a => .bnd (.bnd (.ret []) lstD) fun b => eqD a b) boolD) fun z => cond z (.bnd (.bnd (.bnd (.bnd (.bnd (.ret (.int 2)) fun d => .bnd (.bnd (.bnd (.bnd (.bnd (.bnd (.ret (.int 0)) fun d => .bnd (.bnd (.ret (.int 1)) fun d => .bnd (.ret []) fun ds => .ret (d :: ds)) fun ds => .ret (d :: ds)) tupD) fun d => .bnd (.ret []) fun ds => .ret (d :: ds)) tupD) fun d => .bnd (.ret []) fun ds => .ret (d :: ds)) fun ds => .ret (d :: ds)) tupD) fun d => .bnd (.ret []) fun ds => .ret (d :: ds)) (m_is_graph)) fun a => .bnd (.ret (.bl true)) fun b => isD a b) (.ret (.bl false))) ρ fun d M => some (.ret d, M))))))))))))
theorem s_law : FnScope N_law ["script"] (defScope (top 40)) := ⟨by kernel_rfl, by kernel_rfl, by kernel_rfl, nd_of (by kernel_rfl), by kernel_rfl, par_ok (by kernel_rfl), nofree_ok (by kernel_rfl)⟩
noncomputable def m_law : List D → Mo D := fnD N_law g_law
theorem b_law (G : Gl T ad fo ct) {k : Nat} (hk : 10 ≤ k) (Wx : WX) : BX (T.sc N_law (defScope (top 40)) k Wx (fo "law").code) (defBody (top 40)) g_law := by
  have nd : (T.sc N_law (defScope (top 40)) k Wx (fo "law").code).N.Nodup := s_law.nd
  have H__law_alike := h__law_alike (T := T) G 9
  have H__law_draws := h__law_draws (T := T) G
  have H__law_says := h__law_says (T := T) G
  have H__law_system := h__law_system (T := T) G
  have H__law_take := h__law_take (T := T) G
  have H_added := h_added (T := T) G
  have H_column_graph := h_column_graph (T := T) G
  have H_graph_of := h_graph_of (T := T) G
  have H_is_graph := h_is_graph (T := T) G
  have H_is_pattern := h_is_pattern (T := T) G
  have H_is_symmetric := h_is_symmetric (T := T) G
  have H_neighbours := h_neighbours (T := T) G
  have H_pattern_of := h_pattern_of (T := T) G
  have H_transposed := h_transposed (T := T) G
  unfold g_law l3_law l2_law l1_law
  exact bx_cons (sx_set 6 nd (ex_call H__law_draws (show 1 ≤ k by omega) rfl G.f__law_draws.2.1 G.f__law_draws.2.2.1 G.f__law_draws.2.2.2 (ax_cons (ex_var 0) (ax_nil)) (fun _ _ _ _ h => len_cons (n := 0) ln0 _ _ _ h)))
      (bx_cons (sx_par 7 8 nd (ax_cons (ex_op ox_add (ex_int) (ex_call H__law_take (show 1 ≤ k by omega) rfl G.f__law_take.2.1 G.f__law_take.2.2.1 G.f__law_take.2.2.2 (ax_cons (ex_var 6) (ax_cons (ex_int) (ax_nil))) (fun _ _ _ _ h => len_cons (n := 1) (len_cons (n := 0) ln0) _ _ _ h))) (ax_cons (ex_op ox_add (ex_int) (ex_call H__law_take (show 1 ≤ k by omega) rfl G.f__law_take.2.1 G.f__law_take.2.2.1 G.f__law_take.2.2.2 (ax_cons (ex_var 6) (ax_cons (ex_int) (ax_nil))) (fun _ _ _ _ h => len_cons (n := 1) (len_cons (n := 0) ln0) _ _ _ h))) (ax_nil))) (hw := fun X c => (sws_sc c _ _).trans (by kernel_rfl)))
      (bx_cons (sx_for rfl (ix_all (ex_lst (ax_cons (ex_sub (ex_call H__law_system (show 3 ≤ k by omega) rfl G.f__law_system.2.1 G.f__law_system.2.2.1 G.f__law_system.2.2.2 (ax_cons (ex_var 6) (ax_cons (ex_var 7) (ax_cons (ex_var 8) (ax_cons (ex_int) (ax_nil))))) (fun _ _ _ _ h => len_cons (n := 3) (len_cons (n := 2) (len_cons (n := 1) (len_cons (n := 0) ln0))) _ _ _ h)) (ex_int)) (ax_cons (ex_sub (ex_call H__law_system (show 3 ≤ k by omega) rfl G.f__law_system.2.1 G.f__law_system.2.2.1 G.f__law_system.2.2.2 (ax_cons (ex_var 6) (ax_cons (ex_var 8) (ax_cons (ex_var 8) (ax_cons (ex_int) (ax_nil))))) (fun _ _ _ _ h => len_cons (n := 3) (len_cons (n := 2) (len_cons (n := 1) (len_cons (n := 0) ln0))) _ _ _ h)) (ex_int)) (ax_nil))))) (gx_name 9 nd)
      (bx_cons (sx_set 10 nd (ex_call H_pattern_of (show 1 ≤ k by omega) rfl G.f_pattern_of.2.1 G.f_pattern_of.2.2.1 G.f_pattern_of.2.2.2 (ax_cons (ex_var 9) (ax_nil)) (fun _ _ _ _ h => len_cons (n := 0) ln0 _ _ _ h)))
      (bx_cons (sx_set 11 nd (ex_lx (lx_l1 false [("k", 1), ("j", 2), ("value", 3)]  nd (blk_ok (by kernel_rfl))  (ix_all (ex_sub (ex_var 9) (ex_int))) (gv_tup (n := 3) (gvs_cons (gv_name 1 nd) (gvs_cons (gv_name 2 nd) (gvs_cons (gv_name 3 nd) (gvs_nil))))) (txs_nil)  (ex_tup (ax_cons (ex_var 1) (ax_cons (ex_var 2) (ax_nil)))))) (hs := fun X c => sw_lcC c rfl))
      (bx_cons (sx_if (tx_w (wx_or (tx_not (tx_bool (ex_call H__law_alike (show 10 ≤ k by omega) rfl G.f__law_alike.2.1 G.f__law_alike.2.2.1 G.f__law_alike.2.2.2 (ax_cons (ex_var 10) (ax_cons (ex_tup (ax_cons (ex_sub (ex_var 9) (ex_int)) (ax_cons (ex_sub (ex_var 9) (ex_int)) (ax_cons (ex_callTy cx_tuple rfl G.n_tuple rfl (ax_cons (ex_var 11) (ax_nil))) (ax_nil))))) (ax_nil))) (fun _ _ _ _ h => len_cons (n := 1) (len_cons (n := 0) ln0) _ _ _ h)))) (wx_or1 (tx_cmp ox_isn (ex_call H_is_pattern (show 4 ≤ k by omega) rfl G.f_is_pattern.2.1 G.f_is_pattern.2.2.1 G.f_is_pattern.2.2.2 (ax_cons (ex_var 10) (ax_nil)) (fun _ _ _ _ h => len_cons (n := 0) ln0 _ _ _ h)) (ex_bl)))))
      (bx_one (sx_ret (ex_bl)))
      (bx_nil))
      (bx_cons (sx_set 12 nd (ex_lst (ax_nil)))
      (bx_cons (sx_for rfl (ix_range1 rfl G.n_range (ax_cons (ex_sub (ex_var 9) (ex_int)) (ax_nil))) (gx_name 2 nd)
      (bx_one (sx_set 12 nd (ex_op ox_add (ex_var 12) (ex_lx (lx_l1 false [("c", 5)]  nd (blk_ok (by kernel_rfl))  (ix_range2 rfl G.n_range (ax_cons (ex_op ox_add (ex_var 2) (ex_int)) (ax_cons (ex_sub (ex_var 9) (ex_int)) (ax_nil)))) (gv_name 5 nd) (txs_one (tx_cmp ox_ne (ex_lx (lx_l1 false [("k", 1)]  nd (blk_ok (by kernel_rfl))  (ix_range1 rfl G.n_range (ax_cons (ex_sub (ex_var 9) (ex_int)) (ax_nil))) (gv_name 1 nd) (txs_one (tx_w (wx_and (tx_cmp ox_inA (ex_tup (ax_cons (ex_var 1) (ax_cons (ex_var 2) (ax_nil)))) (ex_var 11)) (wx_and1 (tx_cmp ox_inA (ex_tup (ax_cons (ex_var 1) (ax_cons (ex_var 5) (ax_nil)))) (ex_var 11))))))  (ex_var 1))) (ex_lst (ax_nil))))  (ex_tup (ax_cons (ex_var 2) (ax_cons (ex_var 5) (ax_nil))))))))))
      (bx_cons (sx_set 13 nd (ex_call H_column_graph (show 1 ≤ k by omega) rfl G.f_column_graph.2.1 G.f_column_graph.2.2.1 G.f_column_graph.2.2.2 (ax_cons (ex_var 10) (ax_nil)) (fun _ _ _ _ h => len_cons (n := 0) ln0 _ _ _ h)))
      (bx_cons (sx_if (tx_w (wx_or (tx_not (tx_bool (ex_call H__law_alike (show 10 ≤ k by omega) rfl G.f__law_alike.2.1 G.f__law_alike.2.2.1 G.f__law_alike.2.2.2 (ax_cons (ex_var 13) (ax_cons (ex_tup (ax_cons (ex_sub (ex_var 9) (ex_int)) (ax_cons (ex_callTy cx_tuple rfl G.n_tuple rfl (ax_cons (ex_var 12) (ax_nil))) (ax_nil)))) (ax_nil))) (fun _ _ _ _ h => len_cons (n := 1) (len_cons (n := 0) ln0) _ _ _ h)))) (wx_or1 (tx_cmp ox_isn (ex_call H_is_graph (show 4 ≤ k by omega) rfl G.f_is_graph.2.1 G.f_is_graph.2.2.1 G.f_is_graph.2.2.2 (ax_cons (ex_var 13) (ax_nil)) (fun _ _ _ _ h => len_cons (n := 0) ln0 _ _ _ h)) (ex_bl)))))
      (bx_one (sx_ret (ex_bl)))
      (bx_nil))
      (bx_cons (sx_set 14 nd (ex_call H_neighbours (show 1 ≤ k by omega) rfl G.f_neighbours.2.1 G.f_neighbours.2.2.1 G.f_neighbours.2.2.2 (ax_cons (ex_var 13) (ax_nil)) (fun _ _ _ _ h => len_cons (n := 0) ln0 _ _ _ h)))
      (bx_one (sx_if (tx_cmp ox_ne (ex_lx (lx_l1 false [("one", 4)]  nd (blk_ok (by kernel_rfl))  (ix_all (ex_var 14)) (gv_name 4 nd) (txs_nil)  (ex_callB (cx_sorted false) rfl G.n_sorted rfl (ax_cons (ex_callTy (cx_listA false) rfl G.n_list rfl (ax_cons (ex_var 4) (ax_nil))) (ax_nil))))) (ex_lx (lx_l1 false [("j", 2)]  nd (blk_ok (by kernel_rfl))  (ix_range1 rfl G.n_range (ax_cons (ex_sub (ex_var 9) (ex_int)) (ax_nil))) (gv_name 2 nd) (txs_nil)  (ex_lx (lx_l1 false [("c", 5)]  nd (blk_ok (by kernel_rfl))  (ix_range1 rfl G.n_range (ax_cons (ex_sub (ex_var 9) (ex_int)) (ax_nil))) (gv_name 5 nd) (txs_one (tx_cmp ox_inA (ex_tup (ax_cons (ex_callB cx_min2 rfl G.n_min rfl (ax_cons (ex_var 2) (ax_cons (ex_var 5) (ax_nil)))) (ax_cons (ex_callB cx_max2 rfl G.n_max rfl (ax_cons (ex_var 2) (ax_cons (ex_var 5) (ax_nil)))) (ax_nil)))) (ex_var 12)))  (ex_var 5))))))
      (bx_one (sx_ret (ex_bl)))
      (bx_nil))))))))))))
      (bx_cons (sx_set 12 nd (ex_lst (ax_nil)))
      (bx_cons (sx_for rfl (ix_range1 rfl G.n_range (ax_cons (ex_var 8) (ax_nil))) (gx_name 2 nd)
      (bx_one (sx_set 12 nd (ex_op ox_add (ex_var 12) (ex_lx (lx_l1 false [("c", 5)]  nd (blk_ok (by kernel_rfl))  (ix_range2 rfl G.n_range (ax_cons (ex_op ox_add (ex_var 2) (ex_int)) (ax_cons (ex_var 8) (ax_nil)))) (gv_name 5 nd) (txs_one (tx_w (wx_or (tx_cmp ox_inA (ex_tup (ax_cons (ex_var 2) (ax_cons (ex_var 5) (ax_nil)))) (ex_var 11)) (wx_or1 (tx_cmp ox_inA (ex_tup (ax_cons (ex_var 5) (ax_cons (ex_var 2) (ax_nil)))) (ex_var 11))))))  (ex_tup (ax_cons (ex_var 2) (ax_cons (ex_var 5) (ax_nil))))))))))
      (bx_cons (sx_set 15 nd (ex_call H_added (show 4 ≤ k by omega) rfl G.f_added.2.1 G.f_added.2.2.1 G.f_added.2.2.2 (ax_cons (ex_var 9) (ax_cons (ex_call H_transposed (show 2 ≤ k by omega) rfl G.f_transposed.2.1 G.f_transposed.2.2.1 G.f_transposed.2.2.2 (ax_cons (ex_var 9) (ax_nil)) (fun _ _ _ _ h => len_cons (n := 0) ln0 _ _ _ h)) (ax_nil))) (fun _ _ _ _ h => len_cons (n := 1) (len_cons (n := 0) ln0) _ _ _ h)))
      (bx_cons (sx_if (tx_w (wx_or (tx_not (tx_bool (ex_call H__law_alike (show 10 ≤ k by omega) rfl G.f__law_alike.2.1 G.f__law_alike.2.2.1 G.f__law_alike.2.2.2 (ax_cons (ex_call H_graph_of (show 1 ≤ k by omega) rfl G.f_graph_of.2.1 G.f_graph_of.2.2.1 G.f_graph_of.2.2.2 (ax_cons (ex_var 10) (ax_nil)) (fun _ _ _ _ h => len_cons (n := 0) ln0 _ _ _ h)) (ax_cons (ex_tup (ax_cons (ex_var 8) (ax_cons (ex_callTy cx_tuple rfl G.n_tuple rfl (ax_cons (ex_var 12) (ax_nil))) (ax_nil)))) (ax_nil))) (fun _ _ _ _ h => len_cons (n := 1) (len_cons (n := 0) ln0) _ _ _ h)))) (wx_or (tx_not (tx_bool (ex_call H__law_says (show 1 ≤ k by omega) rfl G.f__law_says.2.1 G.f__law_says.2.2.1 G.f__law_says.2.2.2 (ax_cons (ex_call H_is_symmetric (show 2 ≤ k by omega) rfl G.f_is_symmetric.2.1 G.f_is_symmetric.2.2.1 G.f_is_symmetric.2.2.2 (ax_cons (ex_var 9) (ax_nil)) (fun _ _ _ _ h => len_cons (n := 0) ln0 _ _ _ h)) (ax_cons (ex_cmp ox_eq (ex_call H_transposed (show 2 ≤ k by omega) rfl G.f_transposed.2.1 G.f_transposed.2.2.1 G.f_transposed.2.2.2 (ax_cons (ex_var 9) (ax_nil)) (fun _ _ _ _ h => len_cons (n := 0) ln0 _ _ _ h)) (ex_var 9)) (ax_nil))) (fun _ _ _ _ h => len_cons (n := 1) (len_cons (n := 0) ln0) _ _ _ h)))) (wx_or1 (tx_cmp ox_isn (ex_call H_is_symmetric (show 2 ≤ k by omega) rfl G.f_is_symmetric.2.1 G.f_is_symmetric.2.2.1 G.f_is_symmetric.2.2.2 (ax_cons (ex_var 15) (ax_nil)) (fun _ _ _ _ h => len_cons (n := 0) ln0 _ _ _ h)) (ex_bl))))))
      (bx_one (sx_ret (ex_bl)))
      (bx_nil))
      (bx_cons (sx_if (tx_w (wx_and (tx_cmp ox_ne (ex_var 7) (ex_var 8)) (wx_and1 (tx_cmp ox_isn (ex_call H_is_symmetric (show 2 ≤ k by omega) rfl G.f_is_symmetric.2.1 G.f_is_symmetric.2.2.1 G.f_is_symmetric.2.2.2 (ax_cons (ex_tup (ax_cons (ex_var 7) (ax_cons (ex_var 8) (ax_cons (ex_tup (ax_nil)) (ax_nil))))) (ax_nil)) (fun _ _ _ _ h => len_cons (n := 0) ln0 _ _ _ h)) (ex_bl)))))
      (bx_one (sx_ret (ex_bl)))
      (bx_nil))
      (bx_cons (sx_set 16 nd (ex_lst (ax_cons (ex_non) (ax_cons (ex_lst (ax_nil)) (ax_cons (ex_tup (ax_cons (ex_int) (ax_cons (ex_int) (ax_nil)))) (ax_cons (ex_tup (ax_cons (ex_int) (ax_cons (ex_int) (ax_cons (ex_tup (ax_nil)) (ax_nil))))) (ax_cons (ex_tup (ax_cons (ex_int) (ax_cons (ex_int) (ax_cons (ex_tup (ax_cons (ex_tup (ax_cons (ex_int) (ax_cons (ex_int) (ax_nil)))) (ax_nil))) (ax_nil))))) (ax_cons (ex_tup (ax_cons (ex_int) (ax_cons (ex_int) (ax_cons (ex_tup (ax_cons (ex_tup (ax_cons (ex_int) (ax_cons (ex_int) (ax_nil)))) (ax_cons (ex_tup (ax_cons (ex_int) (ax_cons (ex_int) (ax_nil)))) (ax_nil)))) (ax_nil))))) (ax_cons (ex_tup (ax_cons (ex_int) (ax_cons (ex_int) (ax_cons (ex_tup (ax_cons (ex_tup (ax_cons (ex_int) (ax_cons (ex_int) (ax_nil)))) (ax_cons (ex_tup (ax_cons (ex_int) (ax_cons (ex_int) (ax_nil)))) (ax_nil)))) (ax_nil))))) (ax_cons (ex_tup (ax_cons (ex_int) (ax_cons (ex_int) (ax_cons (ex_tup (ax_cons (ex_tup (ax_cons (ex_int) (ax_nil))) (ax_nil))) (ax_nil))))) (ax_cons (ex_tup (ax_cons (ex_int) (ax_cons (ex_int) (ax_cons (ex_lst (ax_cons (ex_tup (ax_cons (ex_int) (ax_cons (ex_int) (ax_nil)))) (ax_nil))) (ax_nil))))) (ax_cons (ex_tup (ax_cons (ex_int) (ax_cons (ex_bl) (ax_cons (ex_tup (ax_nil)) (ax_nil))))) (ax_cons (ex_tup (ax_cons (ex_int) (ax_cons (ex_int) (ax_cons (ex_tup (ax_cons (ex_tup (ax_cons (ex_bl) (ax_cons (ex_int) (ax_nil)))) (ax_nil))) (ax_nil))))) (ax_cons (ex_int) (ax_nil)))))))))))))))
      (bx_cons (sx_if (tx_w (wx_or (tx_cmp ox_ne (ex_lx (lx_l1 false [("value", 3)]  nd (blk_ok (by kernel_rfl))  (ix_all (ex_var 16)) (gv_name 3 nd) (txs_one (tx_not (tx_bool (ex_call H__law_says (show 1 ≤ k by omega) rfl G.f__law_says.2.1 G.f__law_says.2.2.1 G.f__law_says.2.2.2 (ax_cons (ex_call H_is_pattern (show 4 ≤ k by omega) rfl G.f_is_pattern.2.1 G.f_is_pattern.2.2.1 G.f_is_pattern.2.2.2 (ax_cons (ex_var 3) (ax_nil)) (fun _ _ _ _ h => len_cons (n := 0) ln0 _ _ _ h)) (ax_cons (ex_bl) (ax_nil))) (fun _ _ _ _ h => len_cons (n := 1) (len_cons (n := 0) ln0) _ _ _ h)))))  (ex_var 3))) (ex_lst (ax_nil))) (wx_or1 (tx_cmp ox_isn (ex_call H_is_pattern (show 4 ≤ k by omega) rfl G.f_is_pattern.2.1 G.f_is_pattern.2.2.1 G.f_is_pattern.2.2.2 (ax_cons (ex_tup (ax_cons (ex_int) (ax_cons (ex_int) (ax_cons (ex_tup (ax_nil)) (ax_nil))))) (ax_nil)) (fun _ _ _ _ h => len_cons (n := 0) ln0 _ _ _ h)) (ex_bl)))))
      (bx_one (sx_ret (ex_bl)))
      (bx_nil))
      (bx_cons (sx_set 16 nd (ex_lst (ax_cons (ex_non) (ax_cons (ex_lst (ax_nil)) (ax_cons (ex_tup (ax_cons (ex_int) (ax_nil))) (ax_cons (ex_tup (ax_cons (ex_int) (ax_cons (ex_tup (ax_nil)) (ax_nil)))) (ax_cons (ex_tup (ax_cons (ex_int) (ax_cons (ex_tup (ax_cons (ex_tup (ax_cons (ex_int) (ax_cons (ex_int) (ax_nil)))) (ax_nil))) (ax_nil)))) (ax_cons (ex_tup (ax_cons (ex_int) (ax_cons (ex_tup (ax_cons (ex_tup (ax_cons (ex_int) (ax_cons (ex_int) (ax_nil)))) (ax_nil))) (ax_nil)))) (ax_cons (ex_tup (ax_cons (ex_int) (ax_cons (ex_tup (ax_cons (ex_tup (ax_cons (ex_int) (ax_cons (ex_int) (ax_nil)))) (ax_cons (ex_tup (ax_cons (ex_int) (ax_cons (ex_int) (ax_nil)))) (ax_nil)))) (ax_nil)))) (ax_cons (ex_tup (ax_cons (ex_int) (ax_cons (ex_tup (ax_cons (ex_tup (ax_cons (ex_int) (ax_cons (ex_int) (ax_nil)))) (ax_nil))) (ax_nil)))) (ax_cons (ex_tup (ax_cons (ex_int) (ax_cons (ex_tup (ax_cons (ex_tup (ax_cons (ex_int) (ax_cons (ex_int) (ax_nil)))) (ax_cons (ex_tup (ax_cons (ex_int) (ax_cons (ex_int) (ax_nil)))) (ax_nil)))) (ax_nil)))) (ax_cons (ex_tup (ax_cons (ex_int) (ax_cons (ex_lst (ax_cons (ex_tup (ax_cons (ex_int) (ax_cons (ex_int) (ax_nil)))) (ax_nil))) (ax_nil)))) (ax_cons (ex_tup (ax_cons (ex_int) (ax_cons (ex_tup (ax_cons (ex_tup (ax_cons (ex_bl) (ax_cons (ex_int) (ax_nil)))) (ax_nil))) (ax_nil)))) (ax_cons (ex_tup (ax_cons (ex_bl) (ax_cons (ex_tup (ax_nil)) (ax_nil)))) (ax_cons (ex_int) (ax_nil))))))))))))))))
      (bx_one (sx_ret (ex_and (ex_cmp ox_eq (ex_lx (lx_l1 false [("value", 3)]  nd (blk_ok (by kernel_rfl))  (ix_all (ex_var 16)) (gv_name 3 nd) (txs_one (tx_not (tx_bool (ex_call H__law_says (show 1 ≤ k by omega) rfl G.f__law_says.2.1 G.f__law_says.2.2.1 G.f__law_says.2.2.2 (ax_cons (ex_call H_is_graph (show 4 ≤ k by omega) rfl G.f_is_graph.2.1 G.f_is_graph.2.2.1 G.f_is_graph.2.2.2 (ax_cons (ex_var 3) (ax_nil)) (fun _ _ _ _ h => len_cons (n := 0) ln0 _ _ _ h)) (ax_cons (ex_bl) (ax_nil))) (fun _ _ _ _ h => len_cons (n := 1) (len_cons (n := 0) ln0) _ _ _ h)))))  (ex_var 3))) (ex_lst (ax_nil))) (ex_one (ex_cmp ox_is (ex_call H_is_graph (show 4 ≤ k by omega) rfl G.f_is_graph.2.1 G.f_is_graph.2.2.1 G.f_is_graph.2.2.2 (ax_cons (ex_tup (ax_cons (ex_int) (ax_cons (ex_tup (ax_cons (ex_tup (ax_cons (ex_int) (ax_cons (ex_int) (ax_nil)))) (ax_nil))) (ax_nil)))) (ax_nil)) (fun _ _ _ _ h => len_cons (n := 0) ln0 _ _ _ h)) (ex_bl))))))))))))))))
theorem h_law (G : Gl T ad fo ct) : FnD T 11 (ad "law") (fo "law") ["script"] m_law := fnd_of G.f_law.1 s_law fun Wx => b_law G (Nat.le_refl _) Wx
end
end K05
namespace K05
open PySem PySem.Spec PyProof.Rows L2 DL
def d_is_number : He.DefD := ⟨("is_number", none), "is_number", "is_number", defArgs (top 6), defBody (top 6), defScope (top 6), [], []⟩
def d_is_exact : He.DefD := ⟨("is_exact", none), "is_exact", "is_exact", defArgs (top 9), defBody (top 9), defScope (top 9), [], []⟩
def d_is_fraction : He.DefD := ⟨("is_fraction", none), "is_fraction", "is_fraction", defArgs (top 10), defBody (top 10), defScope (top 10), [], []⟩
def d_lowest : He.DefD := ⟨("lowest", none), "lowest", "lowest", defArgs (top 11), defBody (top 11), defScope (top 11), [], []⟩
def d_plus : He.DefD := ⟨("plus", none), "plus", "plus", defArgs (top 12), defBody (top 12), defScope (top 12), [], []⟩
def d_checked : He.DefD := ⟨("checked", none), "checked", "checked", defArgs (top 15), defBody (top 15), defScope (top 15), [], []⟩
def d_from_dict : He.DefD := ⟨("from_dict", none), "from_dict", "from_dict", defArgs (top 19), defBody (top 19), defScope (top 19), [], []⟩
def d_table_of : He.DefD := ⟨("table_of", none), "table_of", "table_of", defArgs (top 20), defBody (top 20), defScope (top 20), [], []⟩
def d_transposed : He.DefD := ⟨("transposed", none), "transposed", "transposed", defArgs (top 21), defBody (top 21), defScope (top 21), [], []⟩
def d_added : He.DefD := ⟨("added", none), "added", "added", defArgs (top 22), defBody (top 22), defScope (top 22), [], []⟩
def d_is_place : He.DefD := ⟨("is_place", none), "is_place", "is_place", defArgs (top 24), defBody (top 24), defScope (top 24), [], []⟩
def d_is_pattern : He.DefD := ⟨("is_pattern", none), "is_pattern", "is_pattern", defArgs (top 25), defBody (top 25), defScope (top 25), [], []⟩
def d_pattern_of : He.DefD := ⟨("pattern_of", none), "pattern_of", "pattern_of", defArgs (top 26), defBody (top 26), defScope (top 26), [], []⟩
def d_is_graph : He.DefD := ⟨("is_graph", none), "is_graph", "is_graph", defArgs (top 27), defBody (top 27), defScope (top 27), [], []⟩
def d_graph_of : He.DefD := ⟨("graph_of", none), "graph_of", "graph_of", defArgs (top 28), defBody (top 28), defScope (top 28), [], []⟩
def d_column_graph : He.DefD := ⟨("column_graph", none), "column_graph", "column_graph", defArgs (top 29), defBody (top 29), defScope (top 29), [], []⟩
def d_neighbours : He.DefD := ⟨("neighbours", none), "neighbours", "neighbours", defArgs (top 30), defBody (top 30), defScope (top 30), [], []⟩
def d_is_symmetric : He.DefD := ⟨("is_symmetric", none), "is_symmetric", "is_symmetric", defArgs (top 31), defBody (top 31), defScope (top 31), [], []⟩
def d__law_draws : He.DefD := ⟨("_law_draws", none), "_law_draws", "_law_draws", defArgs (top 33), defBody (top 33), defScope (top 33), [], []⟩
def d__law_take : He.DefD := ⟨("_law_take", none), "_law_take", "_law_take", defArgs (top 34), defBody (top 34), defScope (top 34), [], []⟩
def d__law_alike : He.DefD := ⟨("_law_alike", none), "_law_alike", "_law_alike", defArgs (top 35), defBody (top 35), defScope (top 35), [], []⟩
def d__law_says : He.DefD := ⟨("_law_says", none), "_law_says", "_law_says", defArgs (top 36), defBody (top 36), defScope (top 36), [], []⟩
def d__law_made : He.DefD := ⟨("_law_made", none), "_law_made", "_law_made", defArgs (top 37), defBody (top 37), defScope (top 37), [], []⟩
def d__law_plus : He.DefD := ⟨("_law_plus", none), "_law_plus", "_law_plus", defArgs (top 38), defBody (top 38), defScope (top 38), [], []⟩
def d__law_system : He.DefD := ⟨("_law_system", none), "_law_system", "_law_system", defArgs (top 39), defBody (top 39), defScope (top 39), [], []⟩
def d_law : He.DefD := ⟨("law", none), "law", "law", defArgs (top 40), defBody (top 40), defScope (top 40), [], []⟩
def fn : List He.DefD := [d_is_number, d_is_exact, d_is_fraction, d_lowest, d_plus, d_checked, d_from_dict, d_table_of, d_transposed, d_added, d_is_place, d_is_pattern, d_pattern_of, d_is_graph, d_graph_of, d_column_graph, d_neighbours, d_is_symmetric, d__law_draws, d__law_take, d__law_alike, d__law_says, d__law_made, d__law_plus, d__law_system, d_law]
def fa0 : List He.Fa := [.glo "is_number", .glo "is_exact", .glo "is_fraction", .glo "lowest", .glo "plus", .glo "checked", .glo "from_dict", .glo "table_of", .glo "transposed", .glo "added", .glo "is_place", .glo "is_pattern", .glo "pattern_of", .glo "is_graph", .glo "graph_of", .glo "column_graph", .glo "neighbours", .glo "is_symmetric", .glo "_law_draws", .glo "_law_take", .glo "_law_alike", .glo "_law_says", .glo "_law_made", .glo "_law_plus", .glo "_law_system", .glo "law", .free "abs", .free "all", .free "bool", .free "int"]
def fa1 : List He.Fa := [.free "isinstance", .free "len", .free "list", .free "max", .free "min", .free "range", .free "reversed", .free "sorted", .free "str", .free "tuple", .int "LIMIT" (10 ^ 128), .glo "NOUGHT", .int "MOST_SIDE" (60), .int "MOST_ENTRIES" (900), .glo "Malformed", .exc "Malformed", .glo "TooMuch", .exc "TooMuch"]
def fa : List He.Fa := fa0 ++ fa1
def tf : List He.Defn := [("is_pattern", none), ("is_graph", none), ("is_symmetric", none)]
def ex (K : PySem.W.Frag) : Bool := (He.eqO (PySem.W.nsIn K mainGlobals "gcd") (some (some (.builtin "math.gcd")))) && (He.tupB K "NOUGHT" [.int 0, .int 1])
abbrev R : PySem.W.OpenRow := PySem.W.OpenLaw.row PySem.Challenge.rw_factorsagree_k05_whole_patterns_and_grap
abbrev hk : PySem.W.Hook := He.hookX 5 fa fn [] tf ex
def ob (s : PySem.W.SharedT) : He.AlX := He.obsX 5 fa fn [] tf ex (HandSHeadRun.getT s)
theorem ob_eq (s : PySem.W.SharedT) : ob s = hk.obs s.abs := He.obsX_eq (HandSHeadRun.getT_eq s)
def nms0 : List Str := ["gcd", "FactorError", "Malformed", "TooMuch", "is_number", "LIMIT", "is_exact", "is_fraction", "lowest", "plus", "NOUGHT", "checked", "MOST_SIDE", "MOST_ENTRIES", "from_dict", "table_of", "transposed", "added", "is_place", "is_pattern", "pattern_of", "is_graph", "graph_of", "column_graph", "neighbours", "is_symmetric", "_law_draws", "_law_take", "_law_alike", "_law_says"]
def nms1 : List Str := ["_law_made", "_law_plus", "_law_system"]
def nms : List Str := nms0 ++ nms1
theorem run (w : World) : HandSHeadRun.RunEqI R (PySem.W.view R.prog [0, 40]) hk ob 4000 nms w := by
  unfold HandSHeadRun.RunEqI
  kernel_rfl
theorem gl_of {P : Program} {w : World} {K : PySem.W.Frag} {h : Heap} {mg : Str → Option Value} (X : K.In h) (G : h.Ns mainGlobals mg) (c : He.SaysX fa fn [] tf ex w h K) (F0 : FuncData) (base : Heap) (hT : ∀ p ∈ tf.map (He.cT K), GxR.TabB base mg p.1 p.2) :
    Gl ⟨P, w, K, mg, base, tf.map (He.cT K)⟩ (He.ga K) (fdAt K F0) (fun x => He.cT K (x, none)) := by
  have c1 := c.t.d
  have F_is_number := fd_at c1 F0 0 (d := d_is_number) (x := "is_number") rfl rfl
  have F_is_exact := fd_at c1 F0 1 (d := d_is_exact) (x := "is_exact") rfl rfl
  have F_is_fraction := fd_at c1 F0 2 (d := d_is_fraction) (x := "is_fraction") rfl rfl
  have F_lowest := fd_at c1 F0 3 (d := d_lowest) (x := "lowest") rfl rfl
  have F_plus := fd_at c1 F0 4 (d := d_plus) (x := "plus") rfl rfl
  have F_checked := fd_at c1 F0 5 (d := d_checked) (x := "checked") rfl rfl
  have F_from_dict := fd_at c1 F0 6 (d := d_from_dict) (x := "from_dict") rfl rfl
  have F_table_of := fd_at c1 F0 7 (d := d_table_of) (x := "table_of") rfl rfl
  have F_transposed := fd_at c1 F0 8 (d := d_transposed) (x := "transposed") rfl rfl
  have F_added := fd_at c1 F0 9 (d := d_added) (x := "added") rfl rfl
  have F_is_place := fd_at c1 F0 10 (d := d_is_place) (x := "is_place") rfl rfl
  have F_is_pattern := fd_at c1 F0 11 (d := d_is_pattern) (x := "is_pattern") rfl rfl
  have F_pattern_of := fd_at c1 F0 12 (d := d_pattern_of) (x := "pattern_of") rfl rfl
  have F_is_graph := fd_at c1 F0 13 (d := d_is_graph) (x := "is_graph") rfl rfl
  have F_graph_of := fd_at c1 F0 14 (d := d_graph_of) (x := "graph_of") rfl rfl
  have F_column_graph := fd_at c1 F0 15 (d := d_column_graph) (x := "column_graph") rfl rfl
  have F_neighbours := fd_at c1 F0 16 (d := d_neighbours) (x := "neighbours") rfl rfl
  have F_is_symmetric := fd_at c1 F0 17 (d := d_is_symmetric) (x := "is_symmetric") rfl rfl
  have F__law_draws := fd_at c1 F0 18 (d := d__law_draws) (x := "_law_draws") rfl rfl
  have F__law_take := fd_at c1 F0 19 (d := d__law_take) (x := "_law_take") rfl rfl
  have F__law_alike := fd_at c1 F0 20 (d := d__law_alike) (x := "_law_alike") rfl rfl
  have F__law_says := fd_at c1 F0 21 (d := d__law_says) (x := "_law_says") rfl rfl
  have F__law_made := fd_at c1 F0 22 (d := d__law_made) (x := "_law_made") rfl rfl
  have F__law_plus := fd_at c1 F0 23 (d := d__law_plus) (x := "_law_plus") rfl rfl
  have F__law_system := fd_at c1 F0 24 (d := d__law_system) (x := "_law_system") rfl rfl
  have F_law := fd_at c1 F0 25 (d := d_law) (x := "law") rfl rfl
  have e0 : ex K = true := c.more
  unfold ex at e0
  simp only [Bool.and_eq_true] at e0
  obtain ⟨e_0, e_1⟩ := e0
  exact {
    n_abs := He.free_ok X G (c1.fact 26 (f := .free "abs") rfl)
    n_all := He.free_ok X G (c1.fact 27 (f := .free "all") rfl)
    n_bool := He.free_ok X G (c1.fact 28 (f := .free "bool") rfl)
    n_int := He.free_ok X G (c1.fact 29 (f := .free "int") rfl)
    n_isinstance := He.free_ok X G (c1.fact 30 (f := .free "isinstance") rfl)
    n_len := He.free_ok X G (c1.fact 31 (f := .free "len") rfl)
    n_list := He.free_ok X G (c1.fact 32 (f := .free "list") rfl)
    n_max := He.free_ok X G (c1.fact 33 (f := .free "max") rfl)
    n_min := He.free_ok X G (c1.fact 34 (f := .free "min") rfl)
    n_range := He.free_ok X G (c1.fact 35 (f := .free "range") rfl)
    n_reversed := He.free_ok X G (c1.fact 36 (f := .free "reversed") rfl)
    n_sorted := He.free_ok X G (c1.fact 37 (f := .free "sorted") rfl)
    n_str := He.free_ok X G (c1.fact 38 (f := .free "str") rfl)
    n_tuple := He.free_ok X G (c1.fact 39 (f := .free "tuple") rfl)
    c_gcd := PySem.W.mg_of X G (He.eqO_ok e_0)
    c_LIMIT := He.int_ok X G (c1.fact 40 (f := .int "LIMIT" (10 ^ 128)) rfl)
    c_NOUGHT := ⟨_, He.glo_ok X G (c1.fact 41 (f := .glo "NOUGHT") rfl), He.tupB_ok e_1⟩
    c_MOST_SIDE := He.int_ok X G (c1.fact 42 (f := .int "MOST_SIDE" (60)) rfl)
    c_MOST_ENTRIES := He.int_ok X G (c1.fact 43 (f := .int "MOST_ENTRIES" (900)) rfl)
    x_Malformed := ⟨He.glo_ok X G (c1.fact 44 (f := .glo "Malformed") rfl), He.exc_ok (c1.fact 45 (f := .exc "Malformed") rfl)⟩
    x_TooMuch := ⟨He.glo_ok X G (c1.fact 46 (f := .glo "TooMuch") rfl), He.exc_ok (c1.fact 47 (f := .exc "TooMuch") rfl)⟩
    f_is_number := ⟨F_is_number, He.glo_ok X G (c1.fact 0 (f := .glo "is_number") rfl), F_is_number.kp, F_is_number.bindsN fun _ _ _ _ _ _ us hl => match us, hl with | [_, _, _], _ => rfl⟩
    f_is_exact := ⟨F_is_exact, He.glo_ok X G (c1.fact 1 (f := .glo "is_exact") rfl), F_is_exact.kp, F_is_exact.bindsN fun _ _ _ _ _ _ us hl => match us, hl with | [_], _ => rfl⟩
    f_is_fraction := ⟨F_is_fraction, He.glo_ok X G (c1.fact 2 (f := .glo "is_fraction") rfl), F_is_fraction.kp, F_is_fraction.bindsN fun _ _ _ _ _ _ us hl => match us, hl with | [_], _ => rfl⟩
    f_lowest := ⟨F_lowest, He.glo_ok X G (c1.fact 3 (f := .glo "lowest") rfl), F_lowest.kp, F_lowest.bindsN fun _ _ _ _ _ _ us hl => match us, hl with | [_, _], _ => rfl⟩
    f_plus := ⟨F_plus, He.glo_ok X G (c1.fact 4 (f := .glo "plus") rfl), F_plus.kp, F_plus.bindsN fun _ _ _ _ _ _ us hl => match us, hl with | [_, _], _ => rfl⟩
    f_checked := ⟨F_checked, He.glo_ok X G (c1.fact 5 (f := .glo "checked") rfl), F_checked.kp, F_checked.bindsN fun _ _ _ _ _ _ us hl => match us, hl with | [_], _ => rfl⟩
    f_from_dict := ⟨F_from_dict, He.glo_ok X G (c1.fact 6 (f := .glo "from_dict") rfl), F_from_dict.kp, F_from_dict.bindsN fun _ _ _ _ _ _ us hl => match us, hl with | [_, _, _], _ => rfl⟩
    f_table_of := ⟨F_table_of, He.glo_ok X G (c1.fact 7 (f := .glo "table_of") rfl), F_table_of.kp, F_table_of.bindsN fun _ _ _ _ _ _ us hl => match us, hl with | [_], _ => rfl⟩
    f_transposed := ⟨F_transposed, He.glo_ok X G (c1.fact 8 (f := .glo "transposed") rfl), F_transposed.kp, F_transposed.bindsN fun _ _ _ _ _ _ us hl => match us, hl with | [_], _ => rfl⟩
    f_added := ⟨F_added, He.glo_ok X G (c1.fact 9 (f := .glo "added") rfl), F_added.kp, F_added.bindsN fun _ _ _ _ _ _ us hl => match us, hl with | [_, _], _ => rfl⟩
    f_is_place := ⟨F_is_place, He.glo_ok X G (c1.fact 10 (f := .glo "is_place") rfl), F_is_place.kp, F_is_place.bindsN fun _ _ _ _ _ _ us hl => match us, hl with | [_, _, _], _ => rfl⟩
    f_is_pattern := ⟨F_is_pattern, He.glo_ok X G (c1.fact 11 (f := .glo "is_pattern") rfl), F_is_pattern.kp, F_is_pattern.bindsN fun _ _ _ _ _ _ us hl => match us, hl with | [_], _ => rfl⟩
    t_is_pattern := ⟨hT _ (List.mem_map_of_mem (by decide)), code_of F_is_pattern, List.mem_map_of_mem (List.mem_map_of_mem (by decide))⟩
    f_pattern_of := ⟨F_pattern_of, He.glo_ok X G (c1.fact 12 (f := .glo "pattern_of") rfl), F_pattern_of.kp, F_pattern_of.bindsN fun _ _ _ _ _ _ us hl => match us, hl with | [_], _ => rfl⟩
    f_is_graph := ⟨F_is_graph, He.glo_ok X G (c1.fact 13 (f := .glo "is_graph") rfl), F_is_graph.kp, F_is_graph.bindsN fun _ _ _ _ _ _ us hl => match us, hl with | [_], _ => rfl⟩
    t_is_graph := ⟨hT _ (List.mem_map_of_mem (by decide)), code_of F_is_graph, List.mem_map_of_mem (List.mem_map_of_mem (by decide))⟩
    f_graph_of := ⟨F_graph_of, He.glo_ok X G (c1.fact 14 (f := .glo "graph_of") rfl), F_graph_of.kp, F_graph_of.bindsN fun _ _ _ _ _ _ us hl => match us, hl with | [_], _ => rfl⟩
    f_column_graph := ⟨F_column_graph, He.glo_ok X G (c1.fact 15 (f := .glo "column_graph") rfl), F_column_graph.kp, F_column_graph.bindsN fun _ _ _ _ _ _ us hl => match us, hl with | [_], _ => rfl⟩
    f_neighbours := ⟨F_neighbours, He.glo_ok X G (c1.fact 16 (f := .glo "neighbours") rfl), F_neighbours.kp, F_neighbours.bindsN fun _ _ _ _ _ _ us hl => match us, hl with | [_], _ => rfl⟩
    f_is_symmetric := ⟨F_is_symmetric, He.glo_ok X G (c1.fact 17 (f := .glo "is_symmetric") rfl), F_is_symmetric.kp, F_is_symmetric.bindsN fun _ _ _ _ _ _ us hl => match us, hl with | [_], _ => rfl⟩
    t_is_symmetric := ⟨hT _ (List.mem_map_of_mem (by decide)), code_of F_is_symmetric, List.mem_map_of_mem (List.mem_map_of_mem (by decide))⟩
    f__law_draws := ⟨F__law_draws, He.glo_ok X G (c1.fact 18 (f := .glo "_law_draws") rfl), F__law_draws.kp, F__law_draws.bindsN fun _ _ _ _ _ _ us hl => match us, hl with | [_], _ => rfl⟩
    f__law_take := ⟨F__law_take, He.glo_ok X G (c1.fact 19 (f := .glo "_law_take") rfl), F__law_take.kp, F__law_take.bindsN fun _ _ _ _ _ _ us hl => match us, hl with | [_, _], _ => rfl⟩
    f__law_alike := ⟨F__law_alike, He.glo_ok X G (c1.fact 20 (f := .glo "_law_alike") rfl), F__law_alike.kp, F__law_alike.bindsN fun _ _ _ _ _ _ us hl => match us, hl with | [_, _], _ => rfl⟩
    f__law_says := ⟨F__law_says, He.glo_ok X G (c1.fact 21 (f := .glo "_law_says") rfl), F__law_says.kp, F__law_says.bindsN fun _ _ _ _ _ _ us hl => match us, hl with | [_, _], _ => rfl⟩
    f__law_made := ⟨F__law_made, He.glo_ok X G (c1.fact 22 (f := .glo "_law_made") rfl), F__law_made.kp, F__law_made.bindsN fun _ _ _ _ _ _ us hl => match us, hl with | [_, _], _ => rfl⟩
    f__law_plus := ⟨F__law_plus, He.glo_ok X G (c1.fact 23 (f := .glo "_law_plus") rfl), F__law_plus.kp, F__law_plus.bindsN fun _ _ _ _ _ _ us hl => match us, hl with | [_, _], _ => rfl⟩
    f__law_system := ⟨F__law_system, He.glo_ok X G (c1.fact 24 (f := .glo "_law_system") rfl), F__law_system.kp, F__law_system.bindsN fun _ _ _ _ _ _ us hl => match us, hl with | [_, _, _, _], _ => rfl⟩
    f_law := ⟨F_law, He.glo_ok X G (c1.fact 25 (f := .glo "law") rfl), F_law.kp, F_law.bindsN fun _ _ _ _ _ _ us hl => match us, hl with | [_], _ => rfl⟩
  }
theorem holds_of (law : ∀ ns : List Int, ns.length ≤ 63 → (∀ z ∈ ns, Builtin.Int.intBits z ≤ 1048576) → ∃ M', m_law [.lst (ns.map .int)] [] = some (.ok (.bl true), M')) : PySem.Challenge.rw_factorsagree_k05_whole_patterns_and_grap.Holds := by
  w_on; o_law
  refine HandSHeadRun.head_imp (r := R) (q := PySem.W.view R.prog [0, 40]) (H := hk) (ob := ob) (M := 4000) (loose := nms) (d := HandSHeadRun.topDef R.prog 40) (kwd := []) ob_eq
    run (by kernel_rfl) (by kernel_rfl) (by kernel_rfl) (by rfl) (by first | assumption | decide +kernel) (by decide +kernel) ⟨rfl, rfl, rfl, rfl, rfl, by decide +kernel⟩ ?hw ?hc
  case hw => w_witness2
  case hc =>
    refine LamX.walk_ofTsE (l := PySem.Challenge.rw_factorsagree_k05_whole_patterns_and_grap) (n := 63) (k := 11) (x := "script") (CX := fun w => L2N.CX R.prog w) rfl (by decide) (by kernel_rfl) ⟨rfl, by decide, by decide⟩ ?F (fun _ _ _ _ _ z => cx_end z)
    intro w mg fa' h Y G hmg0
    obtain ⟨K, KX, c⟩ := Y
    have hmg : mg ("law" : Str) = some (.ref fa') := by
      have e : (HandSHeadRun.topDef R.prog 40).name = ("law" : Str) := by kernel_rfl
      rw [← e]
      exact hmg0
    have e := hmg.symm.trans (He.glo_ok KX G (c.t.d.fact 25 (f := .glo "law") rfl))
    cases e
    obtain ⟨F0, _⟩ := c.t.d.def_ 0 (d := d_is_number) rfl
    have FL := fd_at c.t.d F0 25 (d := d_law) (x := "law") rfl rfl
    have b := FL.bindsA (ps := ["script"]) fun _ _ _ _ _ _ us hl => match us, hl with | [_], _ => rfl
    exact ⟨K, KX, lawAt_of (fd := fdAt K F0 "law") (F := m_law) KX c.hd c.out c.empty (fun s u => b s [u] rfl) (fun base B N TB => h_law (gl_of KX G c F0 base TB)) law⟩
end K05
namespace K05
open DL
def NR (M : Mem) : Prop := ∀ o ∈ M, norefO o = true
theorem norefL_ints (xs : List Int) : norefL (xs.map .int) = true := by
  rw [norefL_all]; simp [noref]
theorem NR.set {M : Mem} (h : NR M) (n : Nat) {o : O} (ho : norefO o = true) : NR (M.set n o) := fun p hp => by
  rcases List.mem_or_eq_of_mem_set hp with h1 | h1
  · exact h p h1
  · rw [h1]; exact ho
theorem set_self {α : Type} {l : List α} {n : Nat} {a : α} (h : l[n]? = some a) : l.set n a = l := by
  apply List.ext_getElem?
  intro i
  by_cases e : n = i
  · subst e
    rw [List.getElem?_set_self (List.getElem?_eq_some_iff.mp h).1, h]
  · rw [List.getElem?_set_ne e]
theorem take_run {n : Nat} {M : Mem} {xs : List Int} {b : Int} (h : M[n]? = some (.lst (xs.map .int))) (hb : 0 < b) (nr : NR M) :
    ∃ (v : Int) (ys : List Int), m__law_take [.ref n, .int b] M = some (.ok (.int v), M.set n (.lst (ys.map .int))) ∧ 0 ≤ v ∧ v < b := by
  have hlt : n < M.length := (List.getElem?_eq_some_iff.mp h).1
  have hres : res M (.ref n) = .lst (xs.map .int) := by simp [res, h]
  have hlen : lenD (.ref n) M = some (.ok (.int xs.length), M) := by unfold lenD lenB; rw [hres]; simp
  unfold m__law_take fnD
  rcases xs.eq_nil_or_concat with rfl | ⟨ys, y, rfl⟩
  · refine ⟨0, [], ?_, Int.le_refl _, hb⟩
    have e : g__law_take (startE N__law_take [.ref n, .int b]) M = some (.ret (.int 0), M) := by
      unfold g__law_take N__law_take
      simp [startE, sE, Mo.bnd, Mo.ret, hlen, eq_int, boolD]
    rw [e, fnR_ret rfl (by simp), set_self h]
  · refine ⟨y.fmod b, ys, ?_, Int.fmod_nonneg_of_pos _ hb, Int.fmod_lt_of_pos _ hb⟩
    have hpop : chkM isL (.ref n) (popD (.ref n) []) M = some (.ok (.int y), M.set n (.lst (ys.map .int))) := by
      simp [chkM, isL, hres, popD, cur, h]
    have e : g__law_take (startE N__law_take [.ref n, .int b]) M = some (.ret (.int (y.fmod b)), M.set n (.lst (ys.map .int))) := by
      unfold g__law_take N__law_take
      simp [startE, sE, Mo.bnd, Mo.ret, hlen, eq_int, boolD, hpop]
      have e1 : decide ((ys.length : Int) + 1 = 0) = false := by simp; omega
      have e2 : decide (b = 0) = false := by simp; omega
      simp [e1, getV, Mo.ret, hpop, arg1, intD, modD, DL.intOp, e2]
    rw [e, fnR_noref rfl]
    · rw [List.take_of_length_le (by simp)]
    · intro o ho
      exact (nr.set n (o := .lst (ys.map .int)) (norefL_ints ys)) o (List.mem_of_mem_take ho)
end K05
namespace K05
open DL
theorem append_run {M : Mem} {n : Nat} {l : List D} {d : D} (h : M[n]? = some (.lst l)) (hl : l.length < PySem.sizeLine) : appendD (.ref n) [d] M = some (.ok .non, M.set n (.lst (l ++ [d]))) := by
  simp [appendD, cur, h, hl]
theorem isL_ref {M : Mem} {n : Nat} {l : List D} (h : M[n]? = some (.lst l)) : isL M (.ref n) = true := by simp [isL, res, h]
theorem mul_small {i j : Int} (h : -(2 ^ 64) < j ∧ j < 2 ^ 64) : mulOk i j = true := by
  unfold mulOk; simp only [Bool.or_eq_true, decide_eq_true_eq]; exact .inl (.inr h)
theorem fdiv_small {j : Int} (h : j ≠ 0 ∧ j.natAbs < 1073741824) : fdivOk j = true := by
  unfold fdivOk; simp only [Bool.or_eq_true, decide_eq_true_eq]; exact .inl h
@[simp] theorem mul_c (i : Int) : mulD (.int i) (.int 48271) = .ret (.int (i * 48271)) := mul_int (mul_small (by decide))
@[simp] theorem mul_c2 (i : Int) : mulD (.int i) (.int 69621) = .ret (.int (i * 69621)) := mul_int (mul_small (by decide))
@[simp] theorem mod_c1 (i : Int) : modD (.int i) (.int 2147483647) = .ret (.int (i.fmod 2147483647)) := mod_int (by decide)
@[simp] theorem mod_c2 (i : Int) : modD (.int i) (.int 2147483629) = .ret (.int (i.fmod 2147483629)) := mod_int (by decide)
@[simp] theorem mod_c3 (i : Int) : modD (.int i) (.int 1000003) = .ret (.int (i.fmod 1000003)) := mod_int (by decide)
@[simp] theorem mod_c4 (i : Int) : modD (.int i) (.int 997) = .ret (.int (i.fmod 997)) := mod_int (by decide)
@[simp] theorem div_c1 (i : Int) : fdivD (.int i) (.int 7) = .ret (.int (i.fdiv 7)) := fdiv_int (fdiv_small (by decide))
@[simp] theorem div_c2 (i : Int) : fdivD (.int i) (.int 997) = .ret (.int (i.fdiv 997)) := fdiv_int (fdiv_small (by decide))
@[simp] theorem div_c3 (i : Int) : fdivD (.int i) (.int 5) = .ret (.int (i.fdiv 5)) := fdiv_int (fdiv_small (by decide))
@[simp] theorem pow_c : powD (.int 10) (.int 18) = .ret (.int (10 ^ 18)) := by unfold powD DL.intOp; rfl
def dM (xs : List Int) : Mem := [.lst (xs.map .int)]
def St (S : List Int) (a b c d e : Option D) : En := [some (.lst (S.map .int)), some (.ref 0), a, b, c, d, e]
theorem dM_get (xs : List Int) : (dM xs)[0]? = some (.lst (xs.map .int)) := rfl
theorem app_dM {xs : List Int} {y : Int} (h : xs.length < PySem.sizeLine) : chkM isL (.ref 0) (appendD (.ref 0) [.int y]) (dM xs) = some (.ok .non, dM (xs ++ [y])) := by
  unfold chkM
  rw [isL_ref (dM_get xs)]
  rw [cond_true]
  rw [append_run (dM_get xs) (by simpa using h)]
  simp [dM]

theorem l1_run {S xs : List Int} {a c d e : Option D} {x : Int} (h : xs.length < 1000000) : ∃ (x' : Int) (ys : List Int), l1__law_draws (St S a (some (.int x)) c d e) (dM xs) = some (.nx (St S a (some (.int x')) c d e), dM ys) ∧ ys.length ≤ xs.length + 1 := by
  have hs : xs.length < PySem.sizeLine := by rw [PySem.sizeLine_eq]; omega
  unfold l1__law_draws St
  by_cases p : 0 < x
  · refine ⟨x.fdiv 997, xs ++ [x.fmod 997], ?_, by simp⟩
    simp [p, app_dM hs]
    simp [sE, Mo.bnd, Mo.ret, app_dM hs]
  · refine ⟨x, xs, ?_, by simp⟩
    simp [p]
theorem l3_run {S xs : List Int} {a b c d : Option D} {x : Int} (h : xs.length < 1000000) : ∃ (x' : Int) (ys : List Int), l3__law_draws (St S a b c d (some (.int x))) (dM xs) = some (.nx (St S a b c d (some (.int x'))), dM ys) ∧ ys.length ≤ xs.length + 1 := by
  have hs : xs.length < PySem.sizeLine := by rw [PySem.sizeLine_eq]; omega
  unfold l3__law_draws St
  refine ⟨(x * 48271 + 69621).fmod 2147483647, xs ++ [((x * 48271 + 69621).fmod 2147483647).fdiv 5], ?_, by simp⟩
  simp [app_dM hs]
  simp [sE, Mo.bnd, Mo.ret, app_dM hs]
theorem l2_for {S xs : List Int} {a c d e : Option D} {x : Int} (h : xs.length < 900000) : ∃ (x' : Int) (d' : Option D) (ys : List Int), forL none (fun d ρ => .ret (ρ.set 5 (some d))) l1__law_draws ((List.range 60).map fun k => .int (k : Nat)) (St S a (some (.int x)) c d e) (dM xs) = some (.nx (St S a (some (.int x')) c d' e), dM ys) ∧ ys.length ≤ xs.length + 60 := by
  obtain ⟨ρ', M', e1, x', d', ys, rfl, rfl, hl⟩ := forL_ind (h := fun d ρ => .ret (ρ.set 5 (some d))) (body := l1__law_draws) (fun i ρ M => ∃ (x : Int) (d : Option D) (ys : List Int), ρ = St S a (some (.int x)) c d e ∧ M = dM ys ∧ ys.length ≤ xs.length + i)
    ((List.range 60).map fun k => .int (k : Nat)) 0 (St S a (some (.int x)) c d e) (dM xs) ⟨x, d, xs, rfl, rfl, by omega⟩ (by
      intro j dd ρ M hj ⟨x, d, ys, e1, e2, hl⟩
      subst e1 e2
      have hj' : j < 60 := by
        have := (List.getElem?_eq_some_iff.mp hj).1
        simpa using this
      obtain ⟨x', zs, e3, h3⟩ := l1_run (S := S) (a := a) (c := c) (d := some dd) (e := e) (x := x) (xs := ys) (by omega)
      exact ⟨_, _, rfl, _, _, .inl e3, x', _, zs, rfl, rfl, by omega⟩)
  exact ⟨x', d', ys, e1, by simpa using hl⟩
theorem r60 : rngD1 [.int 60] = .ret ⟨(List.range 60).map fun k => .int (k : Nat), none⟩ := rngD1_nat (n := 60) (by decide)
theorem r900 : rngD1 [.int 900] = .ret ⟨(List.range 900).map fun k => .int (k : Nat), none⟩ := rngD1_nat (n := 900) (by decide)
theorem l2_run {S xs : List Int} {b c d e : Option D} {p : Int} (h : xs.length < 800000) : ∃ (b' c' d' : Option D) (ys : List Int), l2__law_draws (St S (some (.int p)) b c d e) (dM xs) = some (.nx (St S (some (.int p)) b' c' d' e), dM ys) ∧ ys.length ≤ xs.length + 62 := by
  have hs : ∀ k ≤ 2, ∀ zs : List Int, zs.length ≤ xs.length + k → zs.length < PySem.sizeLine := by
    intro k hk zs hz; rw [PySem.sizeLine_eq]; omega
  unfold l2__law_draws
  obtain ⟨q, e0⟩ : ∃ q, (if p < 0 then -p else p) = q := ⟨_, rfl⟩
  by_cases hq : q < 1000000000000000000
  · obtain ⟨x', d', ys, e3, h3⟩ := l2_for (S := S) (a := some (.int p)) (c := some (.int ((q * 48271 + 11).fmod 2147483647))) (d := d) (e := e) (x := 0) (xs := xs ++ [(((q * 48271 + 11).fmod 2147483647) * 69621 + q).fmod 2147483629] ++ [((q * 48271 + 11).fmod 2147483647 + q.fdiv 7).fmod 1000003]) (by simp; omega)
    refine ⟨some (.int x'), some (.int ((q * 48271 + 11).fmod 2147483647)), d', ys, ?_, by simp at h3; omega⟩
    simp [St, e0, hq]
    simp [sE, Mo.bnd, Mo.ret, app_dM (hs 0 (by omega) xs (by omega)), e0, hq, St]
    rw [app_dM (hs 1 (by omega) _ (by simp))]
    simp [s0]
    rw [r60]
    simpa [St, Mo.ret] using e3
  · obtain ⟨x', d', ys, e3, h3⟩ := l2_for (S := S) (a := some (.int p)) (c := c) (d := d) (e := e) (x := q) (xs := xs) (by omega)
    refine ⟨some (.int x'), c, d', ys, ?_, by omega⟩
    simp [St, hq, e0]
    rw [r60]
    simpa [St] using e3
theorem St_set2 {S : List Int} {a b c d e x : Option D} : (St S a b c d e).set 2 x = St S x b c d e := rfl
theorem draws_run (S : List Int) (h : S.length ≤ 63) : ∃ xs ys : List Int, m__law_draws [.lst (S.map .int)] [] = some (.ok (.ref 1), [.lst (ys.map .int), .lst (xs.map .int)]) := by
  obtain ⟨ρ1, M1, e1, a, b, c, d, xs1, rfl, rfl, hl1⟩ := forL_ind (h := fun d ρ => .ret (ρ.set 2 (some d))) (body := l2__law_draws) (fun i ρ M => ∃ (a b c d : Option D) (ys : List Int), ρ = St S a b c d none ∧ M = dM ys ∧ ys.length ≤ 62 * i)
    (S.map .int) 0 (St S none none none none none) (dM []) ⟨none, none, none, none, [], rfl, rfl, by simp⟩ (by
      intro j dd ρ M hj ⟨a, b, c, d, ys, e1, e2, hl⟩
      subst e1 e2
      obtain ⟨hj', hd⟩ := List.getElem?_eq_some_iff.mp hj
      rw [List.length_map] at hj'
      rw [List.getElem_map] at hd
      subst hd
      obtain ⟨b', c', d', zs, e3, h3⟩ := l2_run (S := S) (b := b) (c := c) (d := d) (e := none) (p := S[j]) (xs := ys) (by omega)
      exact ⟨_, _, rfl, _, _, .inl e3, _, b', c', d', zs, rfl, rfl, by omega⟩)
  have hl1' : xs1.length ≤ 62 * 63 := by simp at hl1; omega
  obtain ⟨s, hs⟩ : ∃ s : Int, sIf (fun ρ => .bnd (.bnd (.bnd (.bnd (getV ρ 0) fun d => .bnd (.ret []) fun ds => .ret (d :: ds)) (arg1 lenD)) fun a => .bnd (.ret (.int 0)) fun b => gtD a b) boolD)
      (fun ρ => sE (.bnd (.ret (.int 1)) fun a => .bnd (.bnd (.bnd (.bnd (getV ρ 0) fun a => .bnd (.ret (.int 0)) fun b => subD' a b) fun d => .bnd (.ret []) fun ds => .ret (d :: ds)) (arg1 absD)) fun b => addD a b) ρ fun d M => some (.nx (ρ.set 6 (some d)), M))
      sNext (St S a b c d (some (.int 1))) (dM xs1) = some (.nx (St S a b c d (some (.int s))), dM xs1) := by
    cases S with
    | nil => exact ⟨1, by simp [St]⟩
    | cons p r =>
      refine ⟨1 + (if p < 0 then -p else p), ?_⟩
      have e : (0 : Int) < (r.length : Int) + 1 := by omega
      simp [St, e]
  obtain ⟨ρ2, M2, e2, d2, f2, xs2, rfl, rfl, hl2⟩ := forL_ind (h := fun d ρ => .ret (ρ.set 5 (some d))) (body := l3__law_draws) (fun i ρ M => ∃ (d : Option D) (f : Int) (ys : List Int), ρ = St S a b c d (some (.int f)) ∧ M = dM ys ∧ ys.length ≤ xs1.length + i)
    ((List.range 900).map fun k => .int (k : Nat)) 0 (St S a b c d (some (.int s))) (dM xs1) ⟨d, s, xs1, rfl, rfl, by simp⟩ (by
      intro j dd ρ M hj ⟨d, f, ys, e1, e2, hl⟩
      subst e1 e2
      have hj' : j < 900 := by
        have := (List.getElem?_eq_some_iff.mp hj).1
        simpa using this
      obtain ⟨f', zs, e3, h3⟩ := l3_run (S := S) (a := a) (b := b) (c := c) (d := some dd) (x := f) (xs := ys) (by omega)
      exact ⟨_, _, rfl, _, _, .inl e3, some dd, f', zs, rfl, rfl, by omega⟩)
  have hl2' : xs2.length ≤ 62 * 63 + 900 := by simp at hl2; omega
  refine ⟨xs2.reverse, xs2, ?_⟩
  unfold m__law_draws fnO g__law_draws
  have h1 : sE (.bnd (.ret []) newL) (startE N__law_draws [.lst (S.map .int)]) (fun d M => some (Fl.nx ((startE N__law_draws [.lst (S.map .int)]).set 1 (some d)), M)) [] = some (.nx (St S none none none none none), dM []) := by
    simp [startE, N__law_draws, sE, Mo.bnd, Mo.ret, newL, lenOk, St, dM]
  have h2 : sFor (fun ρ => .bnd (getV ρ 0) itD) (fun d ρ => .ret (ρ.set 2 (some d))) l2__law_draws (St S none none none none none) (dM []) = some (.nx (St S a b c d none), dM xs1) := by
    simp only [for_app]
    simp [St]
    exact e1
  have h5 : sFor (fun ρ => .bnd (.bnd (.ret (.int 900)) fun d => .bnd (.ret []) fun ds => .ret (d :: ds)) rngD1) (fun d ρ => .ret (ρ.set 5 (some d))) l3__law_draws (St S a b c d (some (.int s))) (dM xs1) = some (.nx (St S a b c d2 (some (.int f2))), dM xs2) := by
    simp only [for_app, bnd_r, r900, sE_app]
    exact e2
  have h3 : sE (.ret (.int 1)) (St S a b c d none) (fun v M => some (Fl.nx ((St S a b c d none).set 6 (some v)), M)) (dM xs1) = some (.nx (St S a b c d (some (.int 1))), dM xs1) := rfl
  rw [run_seq h1, run_seq h2, run_seq h3, run_seq hs, run_seq h5]
  simp [St, sE, Mo.bnd, Mo.ret, lrevD, dM, res, finD, finV, finMm, fnW]
end K05
namespace K05
open DL
/-- a fraction -/
abbrev Fr := Int × Int
def frD (v : Fr) : D := .tup [.int v.1, .int v.2]
def lowF (p q : Int) : Fr := (p.fdiv (Int.gcd p q : Nat), q.fdiv (Int.gcd p q : Nat))
def plusF (v w : Fr) : Fr := lowF (v.1 * w.2 + w.1 * v.2) (v.2 * w.2)
theorem fdiv_e (p : Int) (g : Nat) : p.fdiv g = p / g := Int.fdiv_eq_ediv_of_nonneg p (Int.natCast_nonneg g)
theorem low_ok {p q : Int} (h : 1 ≤ q) : Int.gcd (lowF p q).1 (lowF p q).2 = 1 ∧ 1 ≤ (lowF p q).2 ∧ (lowF p q).2 ≤ q ∧ (lowF p q).1.natAbs ≤ p.natAbs ∧ ((lowF p q).1 = 0 ↔ p = 0) := by
  have hg : 0 < Int.gcd p q := Int.gcd_pos_of_ne_zero_right p (by omega)
  have hd1 : (Int.gcd p q : Int) ∣ p := Int.gcd_dvd_left ..
  have hd2 : (Int.gcd p q : Int) ∣ q := Int.gcd_dvd_right ..
  unfold lowF
  simp only [fdiv_e]
  refine ⟨Int.gcd_ediv_gcd_ediv_gcd hg, ?_, ?_, ?_, ?_⟩
  · obtain ⟨c, hc⟩ := hd2
    generalize Int.gcd p q = g at *
    rw [hc, Int.mul_ediv_cancel_left _ (by omega)]
    rcases Int.lt_or_le 0 c with z | z
    · omega
    · have : (g : Int) * c ≤ 0 := Int.mul_nonpos_of_nonneg_of_nonpos (by omega) z
      omega
  · exact Int.ediv_le_self _ (by omega)
  · obtain ⟨c, hc⟩ := hd1
    generalize Int.gcd p q = g at *
    rw [hc, Int.mul_ediv_cancel_left _ (by omega), Int.natAbs_mul]
    exact Nat.le_mul_of_pos_left _ (by omega)
  · obtain ⟨c, hc⟩ := hd1
    generalize Int.gcd p q = g at *
    rw [hc, Int.mul_ediv_cancel_left _ (by omega)]
    constructor
    · intro e; rw [e]; simp
    · intro e
      rcases Int.mul_eq_zero.mp e with z | z
      · omega
      · exact z
theorem low_id {p q : Int} (h : Int.gcd p q = 1) : lowF p q = (p, q) := by
  unfold lowF
  rw [h]
  simp
theorem plus_comm (v w : Fr) : plusF v w = plusF w v := by
  unfold plusF
  rw [Int.add_comm (v.1 * w.2), Int.mul_comm v.2]
theorem plus_zero {v : Fr} (h : Int.gcd v.1 v.2 = 1) : plusF (0, 1) v = v := by
  unfold plusF
  simp only [Int.zero_mul, Int.zero_add, Int.mul_one, Int.one_mul]
  exact low_id h
/-- small fractions -/
def Sm (b c : Int) (v : Fr) : Prop := -b ≤ v.1 ∧ v.1 ≤ b ∧ 1 ≤ v.2 ∧ v.2 ≤ c
theorem mul_ok' {i j : Int} (h : -1000000 ≤ j ∧ j ≤ 1000000) : mulOk i j = true := mul_small ⟨by omega, by omega⟩
theorem abs_nat (p : Int) : (if p < 0 then -p else p) = (p.natAbs : Int) := by split <;> omega
theorem made_run {p q : Int} (hp : p.natAbs < 1000) (h1 : 1 ≤ q) (h2 : q < 1000) : m__law_made [.int p, .int q] = .ret (frD (lowF p q)) := by
  refine fnD_pr (fun M => ?_) rfl
  have hw : ∃ m' ρ' M', whileN (fun ρ => .bnd (.bnd (getV ρ 3) fun a => .bnd (.ret (.int 0)) fun b => gtD a b) boolD) l1__law_made 1000 [some (.int p), some (.int q), some (.int (p.natAbs : Nat)), some (.int (q.natAbs : Nat)), none] M = some (.nx ρ', M') ∧
      (M' = M ∧ ∃ a b : Nat, ρ' = [some (.int p), some (.int q), some (.int a), some (.int b), none] ∧ b = m' ∧ Nat.gcd a b = Int.gcd p q) ∧ _ :=
    while_ind (fun m ρ M' => M' = M ∧ ∃ a b : Nat, ρ = [some (.int p), some (.int q), some (.int a), some (.int b), none] ∧ b = m ∧ Nat.gcd a b = Int.gcd p q) (by
      rintro m ρ M' ⟨rfl, a, b, rfl, rfl, hg⟩
      by_cases hb : b = 0
      · left
        subst hb
        simp
        rfl
      · right
        have hb' : (0 : Int) < b := by omega
        refine ⟨by simp; have : 0 < b := by omega
                   simp [this]; rfl, a % b, Nat.mod_lt _ (by omega), [some (.int p), some (.int q), some (.int b), some (.int (a % b : Nat)), none], M', .inl ?_, rfl, b, a % b, rfl, rfl, ?_⟩
        · unfold l1__law_made
          have e : (a : Int).fmod b = ((a % b : Nat) : Int) := by rw [Int.fmod_eq_emod_of_nonneg _ (Int.natCast_nonneg b)]; rfl
          simp [mod_int (show (b : Int) ≠ 0 by omega), e]
        · rw [← hg, Nat.gcd_comm a b, Nat.gcd_rec b a, Nat.gcd_comm]) 1000 _ _ _ (show q.natAbs < 1000 by omega) ⟨rfl, p.natAbs, q.natAbs, rfl, rfl, rfl⟩
  obtain ⟨m', ρ', M', hw, ⟨rfl, a, b, rfl, rfl, hg⟩, hc⟩ := hw
  have hb : b = 0 := by
    simp [Mo.ret] at hc
    exact hc
  subst hb
  rw [Nat.gcd_zero_right] at hg
  subst hg
  unfold g__law_made N__law_made
  have e1 : sE (.bnd (.bnd (.bnd (getV (startE ["part", "whole", "one", "other", "sign"] [.int p, .int q]) 0) fun d => .bnd (.ret []) fun ds => .ret (d :: ds)) (arg1 absD)) fun d => .bnd (.bnd (.bnd (.bnd (getV (startE ["part", "whole", "one", "other", "sign"] [.int p, .int q]) 1) fun d => .bnd (.ret []) fun ds => .ret (d :: ds)) (arg1 absD)) fun d => .bnd (.ret []) fun ds => .ret (d :: ds)) fun ds => .ret (d :: ds)) (startE ["part", "whole", "one", "other", "sign"] [.int p, .int q]) (par2 2 3 (startE ["part", "whole", "one", "other", "sign"] [.int p, .int q])) M' = some (.nx [some (.int p), some (.int q), some (.int (p.natAbs : Nat)), some (.int (q.natAbs : Nat)), none], M') := by
    simp [startE, abs_nat]
  rw [run_seq e1, run_seq hw]
  have hq : (0 : Int) < q := by omega
  have hg : 0 < Int.gcd p q := Int.gcd_pos_of_ne_zero_right p (by omega)
  have hgl : Int.gcd p q ≤ q.natAbs := Nat.le_of_dvd (by omega) (Nat.gcd_dvd_right ..)
  simp [hq, mul_int (mul_ok' (i := 1) (j := p) (by omega)), mul_int (mul_ok' (i := 1) (j := q) (by omega)), fdiv_int (i := p) (fdiv_small (j := (Int.gcd p q : Nat)) (by omega)), fdiv_int (i := q) (fdiv_small (j := (Int.gcd p q : Nat)) (by omega))]
  rfl
end K05
namespace K05
open DL
theorem gcd_dc (p q : Int) : Nat.gcd p.natAbs q.natAbs = Int.gcd p q := rfl
theorem lowest_run {p q : Int} (h1 : 1 ≤ q) (h2 : q < 1000) : m_lowest [.int p, .int q] = .ret (frD (lowF p q)) := by
  refine fnD_pr (fun M => ?_) rfl
  have hg : 0 < Int.gcd p q := Int.gcd_pos_of_ne_zero_right p (by omega)
  have hgl : Int.gcd p q ≤ q.natAbs := Nat.le_of_dvd (by omega) (Nat.gcd_dvd_right ..)
  have hq : ¬ q < 0 := by omega
  unfold g_lowest N_lowest
  simp [startE, hq, gcd_dc, fdiv_int (i := p) (fdiv_small (j := (Int.gcd p q : Nat)) (by omega)), fdiv_int (i := q) (fdiv_small (j := (Int.gcd p q : Nat)) (by omega))]
  rfl
theorem mul_bd {a b c d : Int} (ha : -b ≤ a ∧ a ≤ b) (hc : 0 ≤ c ∧ c ≤ d) : -(b * d) ≤ a * c ∧ a * c ≤ b * d := by
  have hb : 0 ≤ b := by omega
  have h1 : a * c ≤ b * c := Int.mul_le_mul_of_nonneg_right ha.2 hc.1
  have h2 : b * c ≤ b * d := Int.mul_le_mul_of_nonneg_left hc.2 hb
  have h3 : -b * c ≤ a * c := Int.mul_le_mul_of_nonneg_right ha.1 hc.1
  rw [Int.neg_mul] at h3
  omega
theorem Sm.prod {b c : Int} {v w : Fr} (hv : Sm b c v) (hw : Sm b c w) : -(b * c + b * c) ≤ v.1 * w.2 + w.1 * v.2 ∧ v.1 * w.2 + w.1 * v.2 ≤ b * c + b * c ∧ 1 ≤ v.2 * w.2 ∧ v.2 * w.2 ≤ c * c := by
  obtain ⟨v1, v2, v3, v4⟩ := hv
  obtain ⟨w1, w2, w3, w4⟩ := hw
  have a1 := mul_bd (a := v.1) (b := b) (c := w.2) (d := c) ⟨v1, v2⟩ ⟨by omega, w4⟩
  have a2 := mul_bd (a := w.1) (b := b) (c := v.2) (d := c) ⟨w1, w2⟩ ⟨by omega, v4⟩
  have a3 := mul_bd (a := v.2) (b := c) (c := w.2) (d := c) ⟨by omega, v4⟩ ⟨by omega, w4⟩
  have a4 : 1 * 1 ≤ v.2 * w.2 := Int.mul_le_mul v3 w3 (by omega) (by omega)
  omega
theorem Sm.plus {b c : Int} {v w : Fr} (hv : Sm b c v) (hw : Sm b c w) : Sm (b * c + b * c) (c * c) (plusF v w) ∧ Int.gcd (plusF v w).1 (plusF v w).2 = 1 := by
  obtain ⟨h1, h2, h3, h4⟩ := hv.prod hw
  obtain ⟨l1, l2, l3, l4, _⟩ := low_ok (p := v.1 * w.2 + w.1 * v.2) h3
  refine ⟨⟨?_, ?_, l2, ?_⟩, l1⟩
  · show _ ≤ (lowF _ _).1; omega
  · show (lowF _ _).1 ≤ _; omega
  · show (lowF _ _).2 ≤ _; omega
theorem Sm.mono {b c b' c' : Int} {v : Fr} (h : Sm b c v) (hb : b ≤ b') (hc : c ≤ c') : Sm b' c' v := by
  obtain ⟨h1, h2, h3, h4⟩ := h
  exact ⟨by omega, by omega, h3, by omega⟩
theorem plus_run {v w : Fr} (hv : Sm 20 5 v) (hw : Sm 20 5 w) : m_plus [frD v, frD w] = .ret (frD (plusF v w)) := by
  obtain ⟨h1, h2, h3, h4⟩ := hv.prod hw
  obtain ⟨v1, v2, v3, v4⟩ := hv
  obtain ⟨w1, w2, w3, w4⟩ := hw
  refine fnD_pr (fun M => ?_) rfl
  unfold g_plus N_plus frD
  simp [startE, mul_int (mul_ok' (i := v.1) (j := w.2) (by omega)), mul_int (mul_ok' (i := w.1) (j := v.2) (by omega)), mul_int (mul_ok' (i := v.2) (j := w.2) (by omega)), lowest_run h3 (by omega)]
  rfl
theorem lplus_run {v w : Fr} (hv : Sm 20 5 v) (hw : Sm 20 5 w) : m__law_plus [frD v, frD w] = .ret (frD (plusF v w)) := by
  obtain ⟨h1, h2, h3, h4⟩ := hv.prod hw
  obtain ⟨v1, v2, v3, v4⟩ := hv
  obtain ⟨w1, w2, w3, w4⟩ := hw
  refine fnD_pr (fun M => ?_) rfl
  unfold g__law_plus N__law_plus frD
  simp [startE, mul_int (mul_ok' (i := v.1) (j := w.2) (by omega)), mul_int (mul_ok' (i := w.1) (j := v.2) (by omega)), mul_int (mul_ok' (i := v.2) (j := w.2) (by omega)), made_run (p := v.1 * w.2 + w.1 * v.2) (by omega) h3 (by omega)]
  rfl
theorem is_number_int (i a b : Int) : m_is_number [.int i, .int a, .int b] = .ret (.bl (decide (a ≤ i) && decide (i ≤ b))) := by
  refine fnD_pr (fun M => ?_) rfl
  unfold g_is_number N_is_number
  simp [startE]
  by_cases h : a ≤ i
  · simp [h]
  · simp [h]
theorem is_number_bl (x : Bool) (a b : Int) : m_is_number [.bl x, .int a, .int b] = .ret (.bl false) := by
  refine fnD_pr (fun M => ?_) rfl
  unfold g_is_number N_is_number
  simp [startE]
theorem is_exact_fr {v : Fr} (h : 1 ≤ v.2) (hg : Int.gcd v.1 v.2 = 1) : m_is_exact [frD v] = .ret (.bl true) := by
  refine fnD_pr (fun M => ?_) rfl
  unfold g_is_exact N_is_exact l1_is_exact frD
  simp [startE, forL_cons, h, gcd_dc, hg]
theorem is_fraction_fr {v : Fr} (h : Sm 1000 1000 v) (hg : Int.gcd v.1 v.2 = 1) : m_is_fraction [frD v] = .ret (.bl true) := by
  obtain ⟨h1, h2, h3, h4⟩ := h
  refine fnD_pr (fun M => ?_) rfl
  unfold g_is_fraction N_is_fraction
  simp [startE, is_exact_fr h3 hg]
  unfold frD
  have e1 : -(10 ^ 128 : Int) ≤ v.1 := by have : (1000 : Int) ≤ 10 ^ 128 := by decide
                                          omega
  have e2 : v.1 ≤ (10 ^ 128 : Int) := by have : (1000 : Int) ≤ 10 ^ 128 := by decide
                                         omega
  have e3 : v.2 ≤ (10 ^ 128 : Int) := by have : (1000 : Int) ≤ 10 ^ 128 := by decide
                                         omega
  simp at e1 e2 e3
  simp [e1, e2, e3]
theorem checked_fr {v : Fr} (h : Sm 1000 1000 v) (hg : Int.gcd v.1 v.2 = 1) : m_checked [frD v] = .ret (frD v) := by
  refine fnD_pr (fun M => ?_) rfl
  unfold g_checked N_checked
  simp [startE, is_fraction_fr h hg]
end K05
namespace K05
open DL
abbrev Ent := (Nat × Nat) × Fr
def entD (e : Ent) : D := .tup [.int e.1.1, .int e.1.2, frD e.2]
def matD (m n : Nat) (es : List Ent) : D := .tup [.int m, .int n, .tup (es.map entD)]
def patD (m n : Nat) (ps : List (Nat × Nat)) : D := .tup [.int m, .int n, .tup (ps.map eP)]
structure Good (m n : Nat) (es : List Ent) : Prop where
  pw : es.Pairwise fun a b => ltP a.1 b.1
  inr : ∀ e ∈ es, e.1.1 < m ∧ e.1.2 < n
  sm : ∀ e ∈ es, Sm 20 5 e.2
  gcd : ∀ e ∈ es, Int.gcd e.2.1 e.2.2 = 1
  nz : ∀ e ∈ es, e.2.1 ≠ 0
theorem noref_eP (l : List (Nat × Nat)) : norefL (l.map eP) = true := by
  rw [norefL_all]; simp [eP, noref, norefL]
theorem noref_ent (l : List Ent) : norefL (l.map entD) = true := by
  rw [norefL_all]; simp [entD, frD, noref, norefL]
theorem noref_pat (m n : Nat) (ps : List (Nat × Nat)) : noref (patD m n ps) = true := by
  simp [patD, noref, norefL, noref_eP]
theorem noref_mat (m n : Nat) (es : List Ent) : noref (matD m n es) = true := by
  simp [matD, noref, norefL, noref_ent]
theorem Good.nodup {m n : Nat} {es : List Ent} (g : Good m n es) : (es.map (·.1)).Nodup := by
  unfold List.Nodup
  rw [List.pairwise_map]
  refine g.pw.imp fun {a b} h (e : a.1 = b.1) => ?_
  rw [e] at h
  exact ltP.irr h
theorem Good.len {m n : Nat} {es : List Ent} (g : Good m n es) : es.length ≤ m * n := by
  have z := len_pairs (m := m) (n := n) g.nodup (by
    intro a ha
    obtain ⟨e, he, rfl⟩ := List.mem_map.mp ha
    exact g.inr e he)
  simpa using z
theorem pattern_of_run {m n : Nat} {es : List Ent} (h : es.length ≤ 1000) : m_pattern_of [matD m n es] = .ret (patD m n (es.map (·.1))) := by
  refine fnD_pr (fun M => ?_) (noref_pat ..)
  unfold g_pattern_of N_pattern_of matD
  simp [startE]
  rw [comp_one (g := entD) (f := fun e => eP e.1) (h := by intro e _; simp [turn1, wipeR, entD, one', eP]), cmp_lst (by simpa using by omega)]
  simp [patD, eP]
/-- is_place of a pair -/
theorem is_place_eP (m n : Nat) (a : Nat × Nat) : m_is_place [.int m, .int n, eP a] = .ret (.bl (decide (a.1 < m ∧ a.2 < n))) := by
  refine fnD_pr (fun M => ?_) rfl
  unfold g_is_place N_is_place eP
  simp [startE, is_number_int]
  by_cases h : a.1 < m
  · have h1 : (a.1 : Int) ≤ m - 1 := by omega
    by_cases h2 : a.2 < n
    · have h3 : (a.2 : Int) ≤ n - 1 := by omega
      simp [h, h1, h2, h3]
    · have h3 : ¬ (a.2 : Int) ≤ n - 1 := by omega
      simp [h, h1, h2, h3]
  · have h1 : ¬ (a.1 : Int) ≤ m - 1 := by omega
    simp [h, h1]
theorem pw_get {α : Type} {lt : α → α → Prop} {l : List α} (h : l.Pairwise lt) {i j : Nat} {a b : α} (hi : l[i]? = some a) (hj : l[j]? = some b) (hij : i < j) : lt a b := by
  obtain ⟨h1, rfl⟩ := List.getElem?_eq_some_iff.mp hi
  obtain ⟨h2, rfl⟩ := List.getElem?_eq_some_iff.mp hj
  exact List.pairwise_iff_getElem.mp h i j h1 h2 hij
theorem sub_at {l : List D} {i : Nat} {d : D} (h : l[i]? = some d) : subD' (.tup l) (.int i) = .ret d := sub_tup (atD_nat h)
theorem all_true {α : Type} {g : α → D} {turn : D → Mo (Option Bool)} {l : List α} (h : ∀ a ∈ l, turn (g a) = .ret (some true)) : genL true none turn (l.map g) = .ret true := by
  have e : l.all (fun _ => true) = true := List.all_eq_true.mpr fun _ _ => rfl
  rw [all_ret (p := fun _ => true) h, e]
/-- the places go up -/
theorem sorted_run {ρ : En} {ps : List (Nat × Nat)} (h : ps.Pairwise ltP) (hl : ps.length ≤ 1000) {k : Nat} {t : En → Mo D} (ht : ∀ i : Nat, t (ρ.set k (some (.int i))) = .bnd (subD' (.tup (ps.map eP)) (.int (i - 1 : Int))) fun a => .bnd (subD' (.tup (ps.map eP)) (.int i)) fun b => ltD a b) :
    genL true none (turnG ρ (fun d ρ => .ret (ρ.set k (some d))) (fun _ => .ret true) t) ((List.range' 1 (ps.length - 1)).map fun k => .int (k : Nat)) = .ret true := by
  rw [all_true]
  · intro i hi
    rw [List.mem_range'_1] at hi
    obtain ⟨j, rfl⟩ : ∃ j, i = j + 1 := ⟨i - 1, by omega⟩
    have h1 : (ps.map eP)[j]? = some (eP ps[j]) := by rw [List.getElem?_map, List.getElem?_eq_getElem (by omega)]; rfl
    have h2 : (ps.map eP)[j + 1]? = some (eP ps[j + 1]) := by rw [List.getElem?_map, List.getElem?_eq_getElem (by omega)]; rfl
    have e : ((j + 1 : Nat) : Int) - 1 = (j : Nat) := by omega
    have hlt : ltP ps[j] ps[j + 1] := List.pairwise_iff_getElem.mp h j (j + 1) (by omega) (by omega) (by omega)
    simp only [turnG, bnd_r, cond_true]
    rw [ht, e, sub_at h1, sub_at h2]
    simp only [bnd_r, ltD_eP, hlt, decide_true, blD_r]
theorem is_pattern_run {m n : Nat} {ps : List (Nat × Nat)} (hm : m ≤ 60) (hn : n ≤ 60) (h : ps.Pairwise ltP) (hl : ps.length ≤ 900) (hr : ∀ a ∈ ps, a.1 < m ∧ a.2 < n) : m_is_pattern [patD m n ps] = .ret (.bl true) := by
  refine fnD_pr (fun M => ?_) rfl
  unfold g_is_pattern N_is_pattern patD
  have h1 : (m : Int) ≤ 60 := by omega
  have h2 : (n : Int) ≤ 60 := by omega
  have h3 : ¬ (900 : Int) < ps.length := by omega
  simp [startE, is_number_int, h1, h2, h3]
  rw [all_true (g := eP) (fun a ha => by simp [turnG, wipeR, is_place_eP, hr a ha])]
  simp
  have e := rngD2_nat (m := 1) (n := ps.length) (by omega) (by omega)
  rw [show ((1 : Nat) : Int) = 1 from rfl] at e
  rw [e]
  simp
  rw [sorted_run (ps := ps) h (by omega)]
  · simp
  · intro i
    simp [wipeR]
def grD (n : Nat) (ls : List (Nat × Nat)) : D := .tup [.int n, .tup (ls.map eP)]
theorem noref_gr (n : Nat) (ls : List (Nat × Nat)) : noref (grD n ls) = true := by
  simp [grD, noref, norefL, noref_eP]
theorem is_graph_run {n : Nat} {ps : List (Nat × Nat)} (hn : n ≤ 60) (h : ps.Pairwise ltP) (hl : ps.length ≤ 900) (hr : ∀ a ∈ ps, a.1 < a.2 ∧ a.2 < n) : m_is_graph [grD n ps] = .ret (.bl true) := by
  refine fnD_pr (fun M => ?_) rfl
  unfold g_is_graph N_is_graph grD
  have h2 : (n : Int) ≤ 60 := by omega
  simp [startE, is_number_int, h2]
  rw [all_true (g := eP) (fun a ha => by simp [turnG, wipeR, is_place_eP, (hr a ha).2, Nat.lt_trans (hr a ha).1 (hr a ha).2])]
  simp
  rw [all_true (g := eP) (fun a ha => by
    have : (a.1 : Int) < a.2 := by have := (hr a ha).1; omega
    simp [turnG, wipeR, eP, this])]
  simp
  have e := rngD2_nat (m := 1) (n := ps.length) (by omega) (by omega)
  rw [show ((1 : Nat) : Int) = 1 from rfl] at e
  rw [e]
  simp
  rw [sorted_run (ps := ps) h (by omega)]
  · simp
  · intro i
    simp [wipeR]
end K05
namespace K05
open DL
theorem frD_inj {v w : Fr} : frD v = frD w ↔ v = w := by
  unfold frD
  simp only [D.tup.injEq, List.cons.injEq, D.int.injEq, and_true]
  constructor
  · rintro ⟨h1, h2⟩; ext <;> assumption
  · rintro rfl; exact ⟨rfl, rfl⟩
theorem frD_ok (v : Fr) : okD (frD v) := ⟨rfl, by show 1 ≤ 64; decide⟩
theorem ne_fr (v w : Fr) : neD (frD v) (frD w) = .ret (.bl (decide (v ≠ w))) := by
  rw [neD_pl (frD_ok v) (frD_ok w)]
  by_cases h : v = w
  · simp [h]
  · simp [h, frD_inj]
theorem eq_fr (v w : Fr) : eqD (frD v) (frD w) = .ret (.bl (decide (v = w))) := by
  rw [eqD_pl (frD_ok v) (frD_ok w)]
  by_cases h : v = w
  · simp [h]
  · simp [h, frD_inj]
theorem eq_non_fr (w : Fr) : eqD .non (frD w) = .ret (.bl false) := by
  rw [eqD_pl ⟨rfl, by decide⟩ (frD_ok w)]
  simp [frD]
def getF (tb : List Ent) (k : Nat × Nat) : Fr := (aGet tb k).getD (0, 1)
def fromF (tb : List Ent) : List Ent := ((sortP (tb.map (·.1))).filter fun k => decide (getF tb k ≠ (0, 1))).map fun k => (k, getF tb k)
theorem from_mem {tb : List Ent} {k : Nat × Nat} {v : Fr} : (k, v) ∈ fromF tb ↔ aGet tb k = some v ∧ v ≠ (0, 1) := by
  unfold fromF
  rw [List.mem_map]
  constructor
  · rintro ⟨k', h, e⟩
    rw [List.mem_filter, sortP_mem, aGet_key] at h
    obtain ⟨⟨w, hw⟩, h2⟩ := h
    have e1 := congrArg Prod.fst e
    have e2 := congrArg Prod.snd e
    simp only at e1 e2
    subst e1
    unfold getF at h2 e2
    rw [hw] at h2 e2
    simp at h2 e2
    subst e2
    exact ⟨hw, by simpa using h2⟩
  · rintro ⟨h, hv⟩
    refine ⟨k, ?_, by unfold getF; rw [h]; rfl⟩
    rw [List.mem_filter, sortP_mem, aGet_key]
    refine ⟨⟨v, h⟩, ?_⟩
    unfold getF
    rw [h]
    simpa using hv
theorem pw_filter {α : Type} {R : α → α → Prop} {p : α → Bool} {l : List α} (h : l.Pairwise R) : (l.filter p).Pairwise R := List.Pairwise.filter p h
theorem from_pw {tb : List Ent} (nd : (tb.map (·.1)).Nodup) : (fromF tb).Pairwise fun a b => ltP a.1 b.1 := by
  unfold fromF
  rw [List.pairwise_map]
  exact pw_filter (sortP_lt nd)
theorem from_len {tb : List Ent} : (fromF tb).length ≤ tb.length := by
  unfold fromF
  rw [List.length_map]
  refine Nat.le_trans (List.length_filter_le _ _) ?_
  have := (sortP_perm (tb.map (·.1))).length_eq
  simp at this
  omega
theorem kvs_keys (tb : List Ent) : (kvs kP frD tb).map (·.1) = (tb.map (·.1)).map eP := by
  unfold kvs
  rw [List.map_map, List.map_map]
  rfl
theorem from_dict_run {m n : Nat} {d : D} {M : Mem} {tb : List Ent} (hd : res M d = .dct true (kvs kP frD tb)) (hl : tb.length ≤ 900) : m_from_dict [.int m, .int n, d] M = some (.ok (matD m n (fromF tb)), M) := by
  refine fnD_at ?_ (noref_mat ..)
  have hs : sortedD false d M = some (.ok (.lst ((sortP (tb.map (·.1))).map eP)), M) := sortedD_eP (by unfold seqK; rw [hd]; exact congrArg some (kvs_keys tb))
  have hg : ∀ k ∈ sortP (tb.map (·.1)), subD' d (.tup [.int k.1, .int k.2]) M = some (.ok (frD (getF tb k)), M) := by
    intro k hk
    rw [sortP_mem, aGet_key] at hk
    obtain ⟨v, hv⟩ := hk
    refine sub_dct hd ?_
    have z := lookB_kP frD (l := tb) (k := k)
    unfold getF
    rw [hv] at z ⊢
    exact z
  unfold g_from_dict N_from_dict
  have hl2 : ((fromF tb).map entD).length ≤ 900 := by rw [List.length_map]; exact Nat.le_trans from_len hl
  refine (run_seq (ρ1 := [some (.int m), some (.int n), some d, none, none, some (.lst ((fromF tb).map entD))]) (M1 := M) ?_).trans ?_
  · simp [startE, sE, Mo.bnd, Mo.ret, hs]
    rw [cmp_lstM (comp_ifM (g := eP) (l := sortP (tb.map (·.1))) (p := fun k => decide (getF tb k ≠ (0, 1))) (f := fun k => entD (k, getF tb k)) ?_) ?_]
    · unfold fromF; rw [List.map_map]; rfl
    · intro k hk
      have hn : neD (frD (getF tb k)) (.tup [.int 0, .int 1]) = .ret (.bl (decide (getF tb k ≠ (0, 1)))) := ne_fr (getF tb k) (0, 1)
      by_cases z : getF tb k = (0, 1)
      · have hgk := hg k hk
        rw [z] at hn hgk
        simp [turn1, eP, one', entD, hgk, Mo.bnd, Mo.ret, hn, z, wipeR]
      · simp [turn1, eP, one', entD, hg k hk, Mo.bnd, Mo.ret, hn, z, wipeR]
    · have : (List.map (fun k => entD (k, getF tb k)) (List.filter (fun k => decide (getF tb k ≠ (0, 1))) (sortP (List.map (fun x => x.fst) tb)))) = (fromF tb).map entD := by unfold fromF; rw [List.map_map]; rfl
      rw [this]; omega
  · have e : ¬ (900 : Int) < (fromF tb).length := by rw [List.length_map] at hl2; omega
    simp [e]
    rfl
end K05
namespace K05
open DL
def sw (e : Ent) : Ent := ((e.1.2, e.1.1), e.2)
theorem kvs_map (es : List Ent) : kvs kP frD es = es.map fun e => (eP e.1, frD e.2) := rfl
theorem kvs_sw (es : List Ent) : kvs kP frD (es.map sw) = es.map fun e => (eP (e.1.2, e.1.1), frD e.2) := by
  unfold kvs; rw [List.map_map]; rfl
theorem nodup_sw {es : List Ent} (h : (es.map (·.1)).Nodup) : ((es.map sw).map (·.1)).Nodup := by
  unfold List.Nodup at *
  rw [List.map_map]
  rw [List.pairwise_map] at h ⊢
  refine h.imp fun {a b} hne q => hne ?_
  have q : ((a.1.2, a.1.1) : Nat × Nat) = (b.1.2, b.1.1) := q
  injection q with q1 q2
  ext
  · exact q2
  · exact q1
theorem table_of_run {m n : Nat} {es : List Ent} {M : Mem} (nd : (es.map (·.1)).Nodup) (hl : es.length ≤ 900) : m_table_of [matD m n es] M = some (.ok (.ref M.length), M ++ [.dct true (kvs kP frD es)]) := by
  unfold m_table_of fnO g_table_of N_table_of matD
  simp [startE]
  rw [comp_one (g := entD) (f := fun e => (eP e.1, frD e.2)) (h := by intro e _; simp [turn1, wipeR, entD, two', eP]), ← kvs_map, cmp_kP frD nd (by omega)]
  rfl
theorem transposed_run {m n : Nat} {es : List Ent} (nd : (es.map (·.1)).Nodup) (hl : es.length ≤ 900) : m_transposed [matD m n es] = .ret (matD n m (fromF (es.map sw))) := by
  refine fnD_pr (fun M => ?_) (noref_mat ..)
  unfold g_transposed N_transposed matD
  simp [startE]
  rw [comp_one (g := entD) (f := fun e => (eP (e.1.2, e.1.1), frD e.2)) (h := by intro e _; simp [turn1, wipeR, entD, two', eP]), ← kvs_sw, cmp_kP frD (nodup_sw nd) (by simpa using by omega)]
  simp
  have z := from_dict_run (m := n) (n := m) (d := .dct true (kvs kP frD (es.map sw))) (M := M) (tb := es.map sw) rfl (by simpa using hl)
  rw [sE_M z]
  rfl
theorem is_sym_run {n : Nat} {m : Nat} {es : List Ent} (nd : (es.map (·.1)).Nodup) (hl : es.length ≤ 900) : m_is_symmetric [matD m n es] = .ret (.bl (decide (m = n) && es.all fun e => decide (aGet es (e.1.2, e.1.1) = some e.2))) := by
  refine fnD_pr (fun M => ?_) rfl
  unfold g_is_symmetric N_is_symmetric matD
  simp [startE]
  rw [comp_one (g := entD) (f := fun e => (eP e.1, frD e.2)) (h := by intro e _; simp [turn1, wipeR, entD, two', eP]), ← kvs_map, cmp_kP frD nd (by omega)]
  simp
  by_cases hmn : m = n
  · subst hmn
    simp
    rw [all_ret (g := entD) (p := fun e => decide (aGet es (e.1.2, e.1.1) = some e.2))]
    · simp
    · intro e he
      simp [turnG, wipeR, entD]
      funext M
      have z := lookB_kP frD (l := es) (k := (e.1.2, e.1.1))
      have z2 := get_dct1 (M := M) (d := .dct true (kvs kP frD es)) (b := eP (e.1.2, e.1.1)) rfl z
      unfold eP at z2
      simp only [] at z2
      rw [Mo.bnd]
      simp only [Mo.bnd, chk_dc (M := M) (d := .dct true (kvs kP frD es)) rfl]
      rw [z2]
      cases e2 : aGet es (e.1.2, e.1.1) with
      | none =>
        simp [eq_non_fr, Mo.ret]
      | some w =>
        simp [eq_fr, Mo.ret]
  · have : ¬ (m : Int) = n := by omega
    simp [hmn, this]
end K05
namespace K05
open DL
def addT (es os : List Ent) (k : Nat × Nat) : Option Fr := match aGet os k with
  | some w => some (plusF (getF es k) w)
  | none => aGet es k
theorem getF_map (tb : List Ent) (k : Nat × Nat) : ((aGet tb k).map frD).getD (.tup [.int 0, .int 1]) = frD (getF tb k) := by
  unfold getF
  cases aGet tb k <;> rfl
theorem last_at {M : Mem} {o : O} : (M ++ [o])[M.length]? = some o := by simp
theorem last_set {M : Mem} {o o' : O} : (M ++ [o]).set M.length o' = M ++ [o'] := by simp
theorem l1_added_run {A B : Option D} {M : Mem} {tb : List Ent} {e : Ent} (h1 : Sm 20 5 (getF tb e.1)) (h2 : Sm 20 5 e.2) (hl : tb.length ≤ 900) :
    l1_added [A, B, some (.ref M.length), some (.int e.1.1), some (.int e.1.2), some (frD e.2)] (M ++ [.dct true (kvs kP frD tb)]) =
      some (.nx [A, B, some (.ref M.length), some (.int e.1.1), some (.int e.1.2), some (frD e.2)], M ++ [.dct true (kvs kP frD (aPut tb e.1 (plusF (getF tb e.1) e.2)))]) := by
  have hr : res (M ++ [.dct true (kvs kP frD tb)]) (.ref M.length) = .dct true (kvs kP frD tb) := res_ref last_at
  have hg := get_dct (v := .tup [.int 0, .int 1]) hr (lookB_kP frD (l := tb) (k := e.1))
  rw [getF_map] at hg
  obtain ⟨p1, p2⟩ := Sm.plus h1 h2
  have hst := store_dct (ρ := [A, B, some (.ref M.length), some (.int e.1.1), some (.int e.1.2), some (frD e.2)]) (last_at (M := M)) (by rw [kvs_len]; omega) (putB_kP frD (l := tb) (k := e.1) (v := plusF (getF tb e.1) e.2))
  rw [last_set] at hst
  unfold eP at hg hst
  unfold l1_added
  simp [sE, Mo.bnd, Mo.ret, chk_dc hr, hg, plus_run h1 h2, checked_fr (p1.mono (by decide) (by decide)) p2, s0, hst]
theorem added_run {n : Nat} {es os : List Ent} {M : Mem} (ge : Good n n es) (go : Good n n os) (hn : n ≤ 6) :
    ∃ tb : List Ent, m_added [matD n n es, matD n n os] M = some (.ok (matD n n (fromF tb)), M) ∧ (tb.map (·.1)).Nodup ∧ ∀ k, aGet tb k = addT es os k := by
  have hm : n * n ≤ 36 := Nat.mul_le_mul hn hn
  have le := ge.len
  have lo := go.len
  have hget : ∀ k, Sm 20 5 (getF es k) := by
    intro k
    unfold getF
    cases e : aGet es k with
    | none => exact ⟨by decide, by decide, by decide, by decide⟩
    | some v => exact ge.sm _ ((aGet_mem ge.nodup).mp e)
  have hmem : ∀ e ∈ os, Sm 20 5 e.2 := go.sm
  obtain ⟨ρ1, M1, e1, tb, a, b, c, rfl, rfl, nd, hl, hk⟩ := forL_ind (h := fun d ρ => .bnd (itemsT 3 d) fun ds => (gConsD (fun d ρ => .ret (ρ.set 3 (some d))) (gConsD (fun d ρ => .ret (ρ.set 4 (some d))) (gConsD (fun d ρ => .ret (ρ.set 5 (some d))) gNilD))) ds ρ) (body := l1_added)
    (fun i ρ M' => ∃ (tb : List Ent) (a b c : Option D), ρ = [some (matD n n es), some (matD n n os), some (.ref M.length), a, b, c] ∧ M' = M ++ [.dct true (kvs kP frD tb)] ∧ (tb.map (·.1)).Nodup ∧ tb.length ≤ 36 + i ∧ ∀ k, aGet tb k = addT es (os.take i) k)
    (os.map entD) 0 [some (matD n n es), some (matD n n os), some (.ref M.length), none, none, none] (M ++ [.dct true (kvs kP frD es)])
    ⟨es, none, none, none, rfl, rfl, ge.nodup, by omega, fun k => rfl⟩ (by
      intro j dd ρ M' hj ⟨tb, a, b, c, e1, e2, nd, hl, hk⟩
      subst e1 e2
      rw [Nat.zero_add] at hl hk ⊢
      obtain ⟨hj', hd⟩ := List.getElem?_eq_some_iff.mp hj
      rw [List.length_map] at hj'
      rw [List.getElem_map] at hd
      subst hd
      have hmj : os[j] ∈ os := List.getElem_mem hj'
      have hno : aGet (os.take j) os[j].1 = none := by
        rw [aGet_none]
        intro q
        obtain ⟨x, hx, ex⟩ := List.mem_map.mp q
        obtain ⟨i, hi, rfl⟩ := List.mem_take_iff_getElem.mp hx
        have := List.pairwise_iff_getElem.mp go.pw i j (by omega) hj' (by omega)
        rw [ex] at this
        exact ltP.irr this
      have hgj : getF tb os[j].1 = getF es os[j].1 := by
        unfold getF; rw [hk]; unfold addT; rw [hno]
      have z := l1_added_run (A := some (matD n n es)) (B := some (matD n n os)) (M := M) (tb := tb) (e := os[j]) (by rw [hgj]; exact hget _) (hmem _ hmj) (by omega)
      refine ⟨_, _, ?_, _, _, .inl z, _, _, _, _, rfl, rfl, nodup_put nd, ?_, ?_⟩
      · simp [entD]; rfl
      · have := len_put (l := tb) (k := os[j].1) (v := plusF (getF tb os[j].1) os[j].2); omega
      · intro k
        rw [aGet_put, hgj, hk]
        unfold addT
        rw [List.take_succ_eq_append_getElem hj', aGet_app]
        by_cases q : os[j].1 = k
        · subst q
          rw [hno]
          simp [aGet]
        · simp [aGet, q])
  refine ⟨tb, ?_, nd, ?_⟩
  · have hl' : tb.length ≤ 900 := by simp at hl; omega
    refine fnD_new (M' := [.dct true (kvs kP frD tb)]) ?_ (noref_mat ..)
    unfold g_added N_added
    refine (run_seq (ρ1 := [some (matD n n es), some (matD n n os), some (.ref M.length), none, none, none]) (M1 := M ++ [.dct true (kvs kP frD es)]) ?_).trans ?_
    · have t := table_of_run (m := n) (n := n) (M := M) ge.nodup (by omega)
      simp [startE, sE, Mo.bnd, Mo.ret, t]
    refine (run_seq (ρ1 := [some (matD n n es), some (matD n n os), some (.ref M.length), a, b, c]) (M1 := M ++ [.dct true (kvs kP frD tb)]) ?_).trans ?_
    · simp only [for_app]
      unfold matD at e1 ⊢
      simp at e1 ⊢
      exact e1
    · have t := from_dict_run (m := n) (n := n) (d := .ref M.length) (M := M ++ [.dct true (kvs kP frD tb)]) (res_ref last_at) hl'
      unfold matD at *
      simp [sE, Mo.bnd, Mo.ret, t]
  · intro k
    rw [hk k]
    simp
end K05
namespace K05
open DL
theorem aGet_sw (es : List Ent) (k : Nat × Nat) : aGet (es.map sw) k = aGet es (k.2, k.1) := by
  induction es with
  | nil => rfl
  | cons e r ih =>
    rw [List.map_cons]
    unfold aGet
    rw [ih]
    have : ((sw e).1 = k) ↔ (e.1 = (k.2, k.1)) := by
      unfold sw
      constructor
      · intro h; rw [← h]
      · intro h
        show (e.1.2, e.1.1) = k
        rw [h]
    simp only [this]
    rfl
theorem from_get {tb : List Ent} (nd : (tb.map (·.1)).Nodup) {k : Nat × Nat} {v : Fr} : aGet (fromF tb) k = some v ↔ aGet tb k = some v ∧ v ≠ (0, 1) := by
  have n2 : ((fromF tb).map (·.1)).Nodup := by
    unfold List.Nodup
    rw [List.pairwise_map]
    refine (from_pw nd).imp fun {a b} h (e : a.1 = b.1) => ?_
    rw [e] at h
    exact ltP.irr h
  rw [aGet_mem n2, from_mem]
theorem Good.ne0 {m n : Nat} {es : List Ent} (g : Good m n es) {k : Nat × Nat} {v : Fr} (h : aGet es k = some v) : v ≠ (0, 1) := by
  have := g.nz _ ((aGet_mem g.nodup).mp h)
  rintro rfl
  exact this rfl
theorem Good.sw_get {m n : Nat} {es : List Ent} (g : Good m n es) (k : Nat × Nat) : aGet (fromF (es.map sw)) k = aGet es (k.2, k.1) := by
  have z := fun v => from_get (nodup_sw g.nodup) (k := k) (v := v)
  simp only [aGet_sw] at z
  cases e : aGet es (k.2, k.1) with
  | some v => exact (z v).mpr ⟨e, g.ne0 e⟩
  | none =>
    cases e2 : aGet (fromF (es.map sw)) k with
    | none => rfl
    | some v =>
      have := ((z v).mp e2).1
      rw [e] at this; cases this
theorem Good.sw {m n : Nat} {es : List Ent} (g : Good m n es) : Good n m (fromF (es.map K05.sw)) := by
  have z : ∀ e ∈ fromF (es.map K05.sw), ((e.1.2, e.1.1), e.2) ∈ es := by
    rintro ⟨k, v⟩ he
    rw [from_mem, aGet_sw] at he
    exact (aGet_mem g.nodup).mp he.1
  exact ⟨from_pw (nodup_sw g.nodup), fun e he => ⟨(g.inr _ (z e he)).2, (g.inr _ (z e he)).1⟩, fun e he => (g.sm _ (z e he) :), fun e he => (g.gcd _ (z e he) :), fun e he => (g.nz _ (z e he) :)⟩
theorem both_sym {n : Nat} {es tb : List Ent} (g : Good n n es) (nd : (tb.map (·.1)).Nodup) (h : ∀ k, aGet tb k = addT es (fromF (es.map sw)) k) :
    ((fromF tb).all fun e => decide (aGet (fromF tb) (e.1.2, e.1.1) = some e.2)) = true := by
  have hs : ∀ k : Nat × Nat, aGet tb k = aGet tb (k.2, k.1) := by
    intro k
    rw [h, h]
    unfold addT
    rw [g.sw_get, g.sw_get]
    unfold getF
    have hk : ((k.2, k.1).2, (k.2, k.1).1) = k := rfl
    have gg : ∀ k v, aGet es k = some v → Int.gcd v.1 v.2 = 1 := fun k v e => g.gcd _ ((aGet_mem g.nodup).mp e)
    cases e1 : aGet es k with
    | none =>
      cases e2 : aGet es (k.2, k.1) with
      | none => simp [e1]
      | some w => simp [e1, plus_zero (gg _ _ e2)]
    | some v =>
      cases e2 : aGet es (k.2, k.1) with
      | none => simp [e1, plus_zero (gg _ _ e1)]
      | some w => simp [e1, plus_comm v w]
  rw [List.all_eq_true]
  rintro ⟨k, v⟩ he
  rw [from_mem] at he
  simp only [decide_eq_true_eq]
  rw [from_get nd, ← hs k]
  exact he
theorem sym_iff {n : Nat} {es : List Ent} (g : Good n n es) : (es.all fun e => decide (aGet es (e.1.2, e.1.1) = some e.2)) = true ↔ fromF (es.map sw) = es := by
  have hm : ∀ k v, (k, v) ∈ fromF (es.map sw) ↔ ((k.2, k.1), v) ∈ es := by
    intro k v
    rw [← aGet_mem g.sw.nodup, g.sw_get, aGet_mem g.nodup]
  rw [List.all_eq_true]
  constructor
  · intro h
    refine eq_of_pw (lt := fun a b : Ent => ltP a.1 b.1) (fun a h => ltP.irr h) (fun a b c h1 h2 => h1.trans h2) g.sw.pw g.pw ?_
    rintro ⟨k, v⟩
    rw [hm]
    constructor
    · intro q
      have z := h _ q
      simp only [decide_eq_true_eq] at z
      exact (aGet_mem g.nodup).mp z
    · intro q
      have z := h _ q
      simp only [decide_eq_true_eq] at z
      exact (aGet_mem g.nodup).mp z
  · intro e a ha
    simp only [decide_eq_true_eq]
    rw [aGet_mem g.nodup]
    rw [← e] at ha
    exact (hm a.1 a.2).mp ha
theorem entD_inj {a b : Ent} (h : entD a = entD b) : a = b := by
  unfold entD frD at h
  simp only [D.tup.injEq, List.cons.injEq, D.int.injEq, and_true] at h
  obtain ⟨h1, h2, h3, h4⟩ := h
  ext <;> first | omega | assumption
theorem map_inj {α : Type} {f : α → D} (hf : ∀ a b, f a = f b → a = b) : ∀ {l m : List α}, l.map f = m.map f → l = m
  | [], [], _ => rfl
  | [], _ :: _, h => by simp at h
  | _ :: _, [], h => by simp at h
  | a :: l, b :: m, h => by
    rw [List.map_cons, List.map_cons, List.cons.injEq] at h
    rw [hf _ _ h.1, map_inj hf h.2]
theorem mat_inj {m n : Nat} {es fs : List Ent} : matD m n es = matD m n fs ↔ es = fs := by
  constructor
  · intro h
    unfold matD at h
    simp only [D.tup.injEq, List.cons.injEq, and_true, true_and] at h
    exact map_inj (fun a b => entD_inj) h
  · rintro rfl; rfl
theorem dpt_map {α : Type} {f : α → D} {k : Nat} (h : ∀ a, dpt (f a) ≤ k) : ∀ l : List α, dptL (l.map f) ≤ k
  | [] => by simp [dptL]
  | a :: l => by
    rw [List.map_cons, dptL]
    have := h a
    have := dpt_map h l
    omega
theorem pl_map {α : Type} {f : α → D} (h : ∀ a, pl (f a) = true) (l : List α) : plL (l.map f) = true := by
  rw [plL_all]
  intro d hd
  obtain ⟨a, _, rfl⟩ := List.mem_map.mp hd
  exact h a
theorem mat_ok (m n : Nat) (es : List Ent) : okD (matD m n es) := by
  constructor
  · have := pl_map (f := entD) (fun a => rfl) es
    simp [matD, pl, plL, this]
  · have := dpt_map (f := entD) (k := 2) (fun a => Nat.le_refl _) es
    simp only [matD, dpt, dptL]
    omega
theorem eq_mat (m n : Nat) (es fs : List Ent) : eqD (matD m n es) (matD m n fs) = .ret (.bl (decide (es = fs))) := by
  rw [eqD_pl (mat_ok ..) (mat_ok ..)]
  by_cases h : es = fs
  · simp [h]
  · simp [h, mat_inj]
end K05
namespace K05
open DL
theorem toIs_pair (a b : Nat) : toIs (.tup [.int a, .int b]) = some (ip (a, b)) := rfl
theorem min_c (a b : Nat) : (if b < a then (b : Int) else a) = ((min a b : Nat) : Int) := by split <;> omega
theorem max_c (a b : Nat) : (if a < b then (b : Int) else a) = ((max a b : Nat) : Int) := by split <;> omega
def mm (a : Nat × Nat) : Nat × Nat := (min a.1 a.2, max a.1 a.2)
def offd (ps : List (Nat × Nat)) : List (Nat × Nat) := (ps.filter fun a => decide (a.1 ≠ a.2)).map mm
def gof (ps : List (Nat × Nat)) : List (Nat × Nat) := sortP (ddf [] (offd ps))
theorem gof_mem {ps : List (Nat × Nat)} {x : Nat × Nat} : x ∈ gof ps ↔ x.1 < x.2 ∧ (x ∈ ps ∨ (x.2, x.1) ∈ ps) := by
  unfold gof offd
  rw [sortP_mem, ddf_mem, List.mem_map]
  constructor
  · rintro (h | ⟨a, h, rfl⟩)
    · cases h
    · rw [List.mem_filter] at h
      obtain ⟨h1, h2⟩ := h
      simp at h2
      unfold mm
      by_cases q : a.1 < a.2
      · rw [show min a.1 a.2 = a.1 by omega, show max a.1 a.2 = a.2 by omega]
        exact ⟨q, .inl h1⟩
      · rw [show min a.1 a.2 = a.2 by omega, show max a.1 a.2 = a.1 by omega]
        exact ⟨show a.2 < a.1 by omega, .inr h1⟩
  · rintro ⟨h1, h2 | h2⟩
    · refine .inr ⟨x, List.mem_filter.mpr ⟨h2, by simp; omega⟩, ?_⟩
      unfold mm
      ext
      · show min x.1 x.2 = _; omega
      · show max x.1 x.2 = _; omega
    · refine .inr ⟨(x.2, x.1), List.mem_filter.mpr ⟨h2, by simp; omega⟩, ?_⟩
      unfold mm
      ext
      · show min x.2 x.1 = _; omega
      · show max x.2 x.1 = _; omega
theorem gof_lt {ps : List (Nat × Nat)} : (gof ps).Pairwise ltP := sortP_lt (ddf_nodup (by simp))
theorem graph_of_run {n : Nat} {ps : List (Nat × Nat)} (hn : n ≤ 7) (hr : ∀ a ∈ ps, a.1 < n ∧ a.2 < n) : m_graph_of [patD n n ps] = .ret (grD n (gof ps)) := by
  refine fnD_pr (fun M => ?_) (noref_gr ..)
  unfold g_graph_of N_graph_of patD
  have hm : ∀ a ∈ offd ps, a.1 < n ∧ a.2 < n := by
    intro a ha
    obtain ⟨b, hb, rfl⟩ := List.mem_map.mp ha
    have := hr b (List.mem_filter.mp hb).1
    unfold mm
    exact ⟨by show min _ _ < _; omega, by show max _ _ < _; omega⟩
  have hd : ∀ a ∈ ddf [] (offd ps), a.1 < n ∧ a.2 < n := by
    intro a ha
    rw [ddf_mem] at ha
    rcases ha with h | h
    · cases h
    · exact hm a h
  have hc : n * n ≤ 60 := Nat.le_trans (Nat.mul_le_mul hn hn) (by decide)
  refine (run_seq (ρ1 := [some (.tup [.int n, .int n, .tup (ps.map eP)]), none, none, some (.set ((ddf [] (offd ps)).map ip))]) (M1 := M) ?_).trans ?_
  · simp [startE]
    rw [comp_if2 (g := eP) (p := fun a => decide (a.1 ≠ a.2)) (f := mm) (u := ip)]
    · change sE (setD (.ret ((offd ps).map ip))) _ _ M = _
      rw [sE_M (setD_run hc (m := .ret ((offd ps).map ip)) (M := M) rfl hm)]
    · intro a ha
      by_cases q : a.1 = a.2
      · simp [turn1, wipeR, eP, q]
      · have q' : ¬ (a.1 : Int) = a.2 := by omega
        simp [turn1, wipeR, eP, q, q', oneS, min_c, max_c, toIs_pair]
        rfl
  · simp
    rw [sorted_set fun a ha => by have := hd a ha; omega]
    simp
    rfl
end K05
namespace K05
open DL
def lD (l : List Nat) : D := .lst (l.map eN)
abbrev RT := List (Nat × List Nat)
def getL (tb : RT) (r : Nat) : List Nat := (aGet tb r).getD []
def cols (ps : List (Nat × Nat)) (r : Nat) : List Nat := (ps.filter fun a => decide (a.1 = r)).map (·.2)
theorem cols_mem {ps : List (Nat × Nat)} {r c : Nat} : c ∈ cols ps r ↔ (r, c) ∈ ps := by
  unfold cols
  rw [List.mem_map]
  constructor
  · rintro ⟨a, h, rfl⟩
    rw [List.mem_filter] at h
    have := of_decide_eq_true h.2
    subst this
    exact h.1
  · intro h
    exact ⟨(r, c), List.mem_filter.mpr ⟨h, by simp⟩, rfl⟩
theorem getL_map (tb : RT) (r : Nat) : ((aGet tb r).map lD).getD (.lst []) = lD (getL tb r) := by
  unfold getL
  cases aGet tb r <;> rfl
theorem l1_cg_run {A a1 a2 a3 f : Option D} {M : Mem} {tb : RT} {r c : Nat} (h1 : (getL tb r).length ≤ 900) (hl : tb.length ≤ 900) :
    l1_column_graph [A, a1, a2, a3, some (.ref M.length), some (.int r), some (.int c), f] (M ++ [.dct false (kvs kI lD tb)]) =
      some (.nx [A, a1, a2, a3, some (.ref M.length), some (.int r), some (.int c), f], M ++ [.dct false (kvs kI lD (aPut tb r (getL tb r ++ [c])))]) := by
  have hr : res (M ++ [.dct false (kvs kI lD tb)]) (.ref M.length) = .dct false (kvs kI lD tb) := res_ref last_at
  have hg := get_dct (v := .lst []) hr (lookB_kI lD (l := tb) (k := r))
  rw [getL_map] at hg
  have hst := store_dct (ρ := [A, a1, a2, a3, some (.ref M.length), some (.int r), some (.int c), f]) (last_at (M := M)) (by rw [kvs_len]; omega) (putB_kI lD (l := tb) (k := r) (v := getL tb r ++ [c]))
  rw [last_set] at hst
  have hs : starD (lD (getL tb r)) (M ++ [.dct false (kvs kI lD tb)]) = some (.ok ((getL tb r).map eN), M ++ [.dct false (kvs kI lD tb)]) := rfl
  have hls : lstD ((getL tb r).map eN ++ [.int c]) = .ret (lD (getL tb r ++ [c])) := by
    rw [lst_ok (small_len (by simp; omega))]
    simp [lD, eN]
  unfold l1_column_graph
  simp [sE, Mo.bnd, Mo.ret, chk_dc hr, hg, hs, hls, s0, hst]
def prs (tb : RT) : List (Nat × Nat) := tb.flatMap fun p => p.2.flatMap fun a => (p.2.filter fun b => decide (a < b)).map fun b => (a, b)
theorem prs_mem {tb : RT} (nd : (tb.map (·.1)).Nodup) {a b : Nat} : (a, b) ∈ prs tb ↔ a < b ∧ ∃ r, a ∈ getL tb r ∧ b ∈ getL tb r := by
  unfold prs
  rw [List.mem_flatMap]
  constructor
  · rintro ⟨⟨r, L⟩, hp, h⟩
    rw [List.mem_flatMap] at h
    obtain ⟨a', ha, h⟩ := h
    rw [List.mem_map] at h
    obtain ⟨b', hb, e⟩ := h
    rw [List.mem_filter] at hb
    injection e with e1 e2
    subst e1 e2
    have hlt := of_decide_eq_true hb.2
    have hg : getL tb r = L := by unfold getL; rw [(aGet_mem nd).mpr hp]; rfl
    exact ⟨hlt, r, by rw [hg]; exact ha, by rw [hg]; exact hb.1⟩
  · rintro ⟨hlt, r, ha, hb⟩
    unfold getL at ha hb
    cases e : aGet tb r with
    | none => rw [e] at ha; cases ha
    | some L =>
      rw [e] at ha hb
      refine ⟨(r, L), (aGet_mem nd).mp e, ?_⟩
      rw [List.mem_flatMap]
      exact ⟨a, ha, List.mem_map.mpr ⟨b, List.mem_filter.mpr ⟨hb, decide_eq_true hlt⟩, rfl⟩⟩
theorem column_graph_run {m n : Nat} {ps : List (Nat × Nat)} {M : Mem} (hn : n ≤ 7) (hl : ps.length ≤ 800) (hr : ∀ a ∈ ps, a.2 < n) :
    ∃ ls : List (Nat × Nat), m_column_graph [patD m n ps] M = some (.ok (grD n ls), M) ∧ ls.Pairwise ltP ∧ ∀ a b, (a, b) ∈ ls ↔ a < b ∧ ∃ r, (r, a) ∈ ps ∧ (r, b) ∈ ps := by
  obtain ⟨ρ1, M1, e1, tb, r0, c0, rfl, rfl, nd, hk1, hk⟩ := forL_ind (h := fun d ρ => .bnd (itemsT 2 d) fun ds => (gConsD (fun d ρ => .ret (ρ.set 5 (some d))) (gConsD (fun d ρ => .ret (ρ.set 6 (some d))) gNilD)) ds ρ) (body := l1_column_graph)
    (fun i ρ M' => ∃ (tb : RT) (r c : Option D), ρ = [some (patD m n ps), none, none, none, some (.ref M.length), r, c, none] ∧ M' = M ++ [.dct false (kvs kI lD tb)] ∧ (tb.map (·.1)).Nodup ∧ tb.length ≤ i ∧ ∀ r, getL tb r = cols (ps.take i) r)
    (ps.map eP) 0 [some (patD m n ps), none, none, none, some (.ref M.length), none, none, none] (M ++ [.dct false []])
    ⟨[], none, none, rfl, rfl, by simp, by simp, fun r => by simp [getL, aGet, cols]⟩ (by
      intro j dd ρ M' hj ⟨tb, a, b, e1, e2, nd, hl2, hk⟩
      subst e1 e2
      rw [Nat.zero_add] at hl2 hk ⊢
      obtain ⟨hj', hd⟩ := List.getElem?_eq_some_iff.mp hj
      rw [List.length_map] at hj'
      rw [List.getElem_map] at hd
      subst hd
      have hc : (getL tb ps[j].1).length ≤ 900 := by
        rw [hk]
        unfold cols
        rw [List.length_map]
        have := List.length_filter_le (fun a : Nat × Nat => decide (a.1 = ps[j].1)) (ps.take j)
        simp at this
        omega
      have z := l1_cg_run (A := some (patD m n ps)) (a1 := none) (a2 := none) (a3 := none) (f := none) (M := M) (tb := tb) (r := ps[j].1) (c := ps[j].2) hc (by omega)
      refine ⟨_, _, ?_, _, _, .inl z, _, _, _, rfl, rfl, nodup_put nd, ?_, ?_⟩
      · simp [eP]; rfl
      · have := len_put (l := tb) (k := ps[j].1) (v := getL tb ps[j].1 ++ [ps[j].2]); omega
      · intro r
        unfold getL
        rw [aGet_put]
        unfold cols
        rw [List.take_succ_eq_append_getElem hj', List.filter_append, List.map_append]
        by_cases q : ps[j].1 = r
        · subst q
          rw [if_pos rfl]
          have := hk ps[j].1
          unfold cols at this
          rw [← this]
          simp
          rfl
        · have := hk r
          unfold getL cols at this
          rw [if_neg q, this]
          simp [q])
  have hk : ∀ r, getL tb r = cols ps r := by intro r; rw [hk]; simp
  have hmem : ∀ x ∈ prs tb, x.1 < n ∧ x.2 < n := by
    rintro ⟨a, b⟩ hx
    rw [prs_mem nd] at hx
    obtain ⟨_, r, h1, h2⟩ := hx
    rw [hk, cols_mem] at h1 h2
    exact ⟨hr (r, a) h1, hr (r, b) h2⟩
  have hd : ∀ a ∈ ddf [] (prs tb), a.1 < n ∧ a.2 < n := by
    intro a ha
    rw [ddf_mem] at ha
    rcases ha with h | h
    · cases h
    · exact hmem a h
  have hc : n * n ≤ 60 := Nat.le_trans (Nat.mul_le_mul hn hn) (by decide)
  refine ⟨sortP (ddf [] (prs tb)), ?_, sortP_lt (ddf_nodup (by simp)), ?_⟩
  · refine fnD_new (M' := [.dead]) ?_ (noref_gr ..)
    unfold g_column_graph N_column_graph
    refine (run_seq (ρ1 := [some (patD m n ps), none, none, none, some (.ref M.length), none, none, none]) (M1 := M ++ [.dct false []]) ?_).trans ?_
    · simp [startE, sE]
    refine (run_seq (ρ1 := [some (patD m n ps), none, none, none, some (.ref M.length), r0, c0, none]) (M1 := M ++ [.dct false (kvs kI lD tb)]) ?_).trans ?_
    · simp only [for_app]
      unfold patD at e1 ⊢
      simp at e1 ⊢
      exact e1
    refine (run_seq (ρ1 := [some (patD m n ps), none, none, none, some (.ref M.length), r0, c0, some (.set ((ddf [] (prs tb)).map ip))]) (M1 := M ++ [.dead]) ?_).trans ?_
    · have hi : itE (·.2) (.ref M.length) (M ++ [.dct false (kvs kI lD tb)]) = some (.ok ⟨tb.map fun p => lD p.2, none⟩, M ++ [.dead]) := by
        unfold itE
        simp [kvs]
      simp [sE, Mo.bnd, Mo.ret, hi]
      rw [compL_map (g := fun p : Nat × List Nat => lD p.2) (f := fun p => (p.2.flatMap fun a => (p.2.filter fun b => decide (a < b)).map fun b => (a, b)).map ip)]
      · rw [← List.map_flatMap]
        have zz : setD (.ret ((tb.flatMap fun p => p.2.flatMap fun a => (p.2.filter fun b => decide (a < b)).map fun b => (a, b)).map ip)) (M ++ [.dead]) = some (.ok (.set ((ddf [] (prs tb)).map ip)), M ++ [.dead]) := by
          have z := setD_run hc (m := .ret ((prs tb).map ip)) (M := M ++ [O.dead]) (M' := M ++ [O.dead]) rfl hmem
          unfold prs at z ⊢
          exact z
        rw [zz]
      · intro p hp
        simp [turn1, wipeR, lD, inF]
        rw [compL_map (g := eN) (f := fun a => ((p.2.filter fun b => decide (a < b)).map fun b => (a, b)).map ip)]
        · rw [← List.map_flatMap]
        · intro a ha
          simp [turn1, wipeR, lD, inF]
          rw [comp_if2 (g := eN) (p := fun b => decide (a < b)) (f := fun b => (a, b)) (u := ip)]
          · simp
          intro b hb
          have hab : ((a : Int) < b) = (a < b) := by simp
          by_cases q : a < b
          · simp [turn1, wipeR, oneS, eN, q, toIs_pair]
          · simp [turn1, wipeR, oneS, eN, q]
    · unfold patD
      simp
      rw [sorted_set fun a ha => by have := hd a ha; omega]
      simp
      rfl
  · intro a b
    rw [sortP_mem, ddf_mem, prs_mem nd]
    constructor
    · rintro (h | ⟨h, r, h1, h2⟩)
      · cases h
      · rw [hk, cols_mem] at h1 h2
        exact ⟨h, r, h1, h2⟩
    · rintro ⟨h, r, h1, h2⟩
      refine .inr ⟨h, r, ?_, ?_⟩
      · rw [hk, cols_mem]; exact h1
      · rw [hk, cols_mem]; exact h2
end K05
namespace K05
open DL
abbrev UL := List (Nat × Unit)
def tD : Unit → D := fun _ => .bl true
def adjO (l : UL) : O := .dct false (kvs kI tD l)
def adjD (l : UL) : D := .dct false (kvs kI tD l)
theorem noref_kvs (l : UL) : norefK (kvs kI tD l) = true := by
  induction l with
  | nil => rfl
  | cons p r ih =>
    show (true && norefK (kvs kI tD r)) = true
    rw [ih]; rfl
theorem adj_get {M : Mem} {tbs : List UL} {q : Nat} (hq : q < tbs.length) : (M ++ tbs.map adjO)[M.length + q]? = some (adjO tbs[q]) := by
  rw [List.getElem?_append_right (by omega), Nat.add_sub_cancel_left, List.getElem?_map, List.getElem?_eq_getElem hq]
  rfl
theorem adj_set {M : Mem} {tbs : List UL} {q : Nat} (x : UL) : (M ++ tbs.map adjO).set (M.length + q) (adjO x) = M ++ (tbs.set q x).map adjO := by
  rw [List.set_append_right _ _ (by omega), Nat.add_sub_cancel_left, List.map_set]
theorem adj_store {M : Mem} {tbs : List UL} {q c : Nat} {ρ : En} (hq : q < tbs.length) (hl : tbs[q].length ≤ 900) : storeM (.ref (M.length + q)) (.int c) (.bl true) ρ (M ++ tbs.map adjO) = some (.ok ρ, M ++ (tbs.set q (aPut tbs[q] c ())).map adjO) := by
  have z := store_dct (ρ := ρ) (adj_get (M := M) hq) (by rw [kvs_len]; omega) (putB_kI tD (l := tbs[q]) (k := c) (v := ()))
  exact z.trans (by rw [← adj_set]; rfl)
theorem comp_new {o : O} {turn : D → Mo (List D)} : ∀ {l : List D} {M : Mem}, (∀ d ∈ l, ∀ M, turn d M = some (.ok [.ref M.length], M ++ [o])) → compL none turn l M = some (.ok ((List.range' M.length l.length).map .ref), M ++ List.replicate l.length o)
  | [], M, _ => by
    rw [show compL none turn [] M = some (.ok [], M) from guardM_none _ _]
    simp
  | d :: r, M, h => by
    rw [compL_cons', bnd_M (h d List.mem_cons_self M), bnd_M (comp_new fun e he => h e (List.mem_cons_of_mem _ he))]
    simp [Mo.ret, List.range'_succ, List.replicate_succ]
def refs (M : Mem) (n : Nat) : List D := (List.range' M.length n).map .ref
theorem refs_at {M : Mem} {n q : Nat} (h : q < n) : subD' (.lst (refs M n)) (.int q) = .ret (.ref (M.length + q)) := by
  refine sub_lst (atD_nat ?_)
  unfold refs
  rw [List.getElem?_map, List.getElem?_range' h]
  simp
theorem l1_nb_run {A B : Option D} {M : Mem} {tbs : List UL} {n a b : Nat} (hn : tbs.length = n) (ha : a < n) (hb : b < n) (hab : a ≠ b) (hl : ∀ q (hq : q < tbs.length), tbs[q].length ≤ 900) :
    l1_neighbours [A, B, some (.lst (refs M n)), some (.int a), some (.int b)] (M ++ tbs.map adjO) =
      some (.nx [A, B, some (.lst (refs M n)), some (.int a), some (.int b)], M ++ ((tbs.set a (aPut (tbs[a]'(by omega)) b ())).set b (aPut (tbs[b]'(by omega)) a ())).map adjO) := by
  have h1 := adj_store (ρ := [A, B, some (.lst (refs M n)), some (.int a), some (.int b)]) (M := M) (c := b) (show a < tbs.length by omega) (hl _ _)
  have hb' : b < (tbs.set a (aPut (tbs[a]'(by omega)) b ())).length := by rw [List.length_set]; omega
  have e : (tbs.set a (aPut (tbs[a]'(by omega)) b ()))[b] = tbs[b]'(by omega) := List.getElem_set_ne hab _
  have h2 := adj_store (ρ := [A, B, some (.lst (refs M n)), some (.int a), some (.int b)]) (M := M) (c := a) hb' (by rw [e]; exact hl _ _)
  rw [e] at h2
  unfold l1_neighbours
  simp [sE, Mo.bnd, Mo.ret, s0, refs_at ha, refs_at hb, h1, h2, -List.map_set]
theorem neighbours_run {n : Nat} {es : List (Nat × Nat)} {M : Mem} (hn : n ≤ 60) (hl : es.length ≤ 400) (hr : ∀ a ∈ es, a.1 < a.2 ∧ a.2 < n) :
    ∃ tbs : List UL, m_neighbours [grD n es] M = some (.ok (.lst (tbs.map adjD)), M) ∧ tbs.length = n ∧ ∀ q (hq : q < tbs.length), (tbs[q].map (·.1)).Nodup ∧ ∀ c, c ∈ tbs[q].map (·.1) ↔ (q, c) ∈ es ∨ (c, q) ∈ es := by
  obtain ⟨ρ1, M1, e1, tbs, a0, b0, rfl, rfl, ln, hk⟩ := forL_ind (h := fun d ρ => .bnd (itemsT 2 d) fun ds => (gConsD (fun d ρ => .ret (ρ.set 3 (some d))) (gConsD (fun d ρ => .ret (ρ.set 4 (some d))) gNilD)) ds ρ) (body := l1_neighbours)
    (fun i ρ M' => ∃ (tbs : List UL) (a b : Option D), ρ = [some (grD n es), none, some (.lst (refs M n)), a, b] ∧ M' = M ++ tbs.map adjO ∧ tbs.length = n ∧ ∀ q (hq : q < tbs.length), (tbs[q].map (·.1)).Nodup ∧ tbs[q].length ≤ i ∧ ∀ c, c ∈ tbs[q].map (·.1) ↔ (q, c) ∈ es.take i ∨ (c, q) ∈ es.take i)
    (es.map eP) 0 [some (grD n es), none, some (.lst (refs M n)), none, none] (M ++ (List.replicate n ([] : UL)).map adjO)
    ⟨List.replicate n [], none, none, rfl, rfl, by simp, fun q hq => by simp⟩ (by
      intro j dd ρ M' hj ⟨tbs, a, b, e1, e2, ln, hk⟩
      subst e1 e2
      rw [Nat.zero_add] at hk ⊢
      obtain ⟨hj', hd⟩ := List.getElem?_eq_some_iff.mp hj
      rw [List.length_map] at hj'
      rw [List.getElem_map] at hd
      subst hd
      obtain ⟨h1, h2⟩ := hr _ (List.getElem_mem hj')
      have z := l1_nb_run (A := some (grD n es)) (B := none) (M := M) (tbs := tbs) (n := n) (a := es[j].1) (b := es[j].2) ln (by omega) h2 (by omega) fun q hq => by have := (hk q hq).2.1; omega
      refine ⟨_, _, ?_, _, _, .inl z, _, _, _, rfl, rfl, by simp [ln], ?_⟩
      · simp [eP]; rfl
      · intro q hq
        rw [List.length_set, List.length_set] at hq
        obtain ⟨k1, k2, k3⟩ := hk q hq
        rw [List.take_succ_eq_append_getElem hj']
        rw [List.getElem_set]
        split
        · rename_i e
          subst e
          refine ⟨nodup_put k1, ?_, fun c => ?_⟩
          · have := len_put (l := tbs[es[j].2]) (k := es[j].1) (v := ()); omega
          · rw [mem_keys_put, k3]
            simp only [List.mem_append, List.mem_singleton]
            constructor
            · rintro (rfl | h | h)
              · exact .inr (.inr rfl)
              · exact .inl (.inl h)
              · exact .inr (.inl h)
            · rintro ((h | h) | (h | h))
              · exact .inr (.inl h)
              · have := congrArg Prod.fst h; simp at this; omega
              · exact .inr (.inr h)
              · exact .inl (congrArg Prod.fst h)
        · rename_i e
          rw [List.getElem_set]
          split
          · rename_i e'
            subst e'
            refine ⟨nodup_put k1, ?_, fun c => ?_⟩
            · have := len_put (l := tbs[es[j].1]) (k := es[j].2) (v := ()); omega
            · rw [mem_keys_put, k3]
              simp only [List.mem_append, List.mem_singleton]
              constructor
              · rintro (rfl | h | h)
                · exact .inl (.inr rfl)
                · exact .inl (.inl h)
                · exact .inr (.inl h)
              · rintro ((h | h) | (h | h))
                · exact .inr (.inl h)
                · exact .inl (congrArg Prod.snd h)
                · exact .inr (.inr h)
                · have := congrArg Prod.snd h; simp at this; omega
          · rename_i e'
            refine ⟨k1, by omega, fun c => ?_⟩
            rw [k3]
            simp only [List.mem_append, List.mem_singleton]
            constructor
            · rintro (h | h)
              · exact .inl (.inl h)
              · exact .inr (.inl h)
            · rintro ((h | h) | (h | h))
              · exact .inl h
              · exact absurd (congrArg Prod.fst h).symm e'
              · exact .inr h
              · exact absurd (congrArg Prod.snd h).symm e)
  refine ⟨tbs, ?_, ln, fun q hq => ⟨(hk q hq).1, fun c => by rw [(hk q hq).2.2]; simp⟩⟩
  refine fnD_obj (X := tbs.map adjO) (d := .lst (refs M n)) ?_ ?_
  · unfold g_neighbours N_neighbours
    refine (run_seq (ρ1 := [some (grD n es), none, some (.lst (refs M n)), none, none]) (M1 := M ++ (List.replicate n ([] : UL)).map adjO) ?_).trans ?_
    · unfold grD
      have hrn := rngD1_nat (n := n) (by omega)
      simp [startE, sE, Mo.bnd, Mo.ret]
      rw [hrn]
      simp only [Mo.ret]
      rw [cmp_lstM (comp_new (o := .dct false []) ?_) (by simp; omega)]
      · simp [refs, adjO, kvs]
      · intro d hd M
        simp [turn1, wipeR, one', Mo.bnd, Mo.ret]
    refine (run_seq (ρ1 := [some (grD n es), none, some (.lst (refs M n)), a0, b0]) (M1 := M ++ tbs.map adjO) ?_).trans ?_
    · simp only [for_app]
      unfold grD at e1 ⊢
      simp at e1 ⊢
      exact e1
    · simp
  · rw [subst]
    have z := substL_maps (f := frF (M ++ tbs.map adjO) M.length 3) (g := fun q => D.ref (M.length + q)) (h := fun q => adjD (tbs.getD q [])) (l := List.range n) (by
      intro q hq
      rw [List.mem_range] at hq
      rw [subst]
      have hq' : q < tbs.length := by omega
      rw [frF_dct (adj_get hq') (by omega) (noref_kvs _)]
      unfold adjD
      rw [List.getD_eq_getElem?_getD, List.getElem?_eq_getElem hq']
      rfl)
    have e1 : refs M n = (List.range n).map fun q => D.ref (M.length + q) := by
      unfold refs
      rw [List.range'_eq_map_range, List.map_map]
      rfl
    have e2 : (List.range n).map (fun q => adjD (tbs.getD q [])) = tbs.map adjD := by
      apply List.ext_getElem
      · simp [ln]
      · intro i h1 h2
        simp at h1 h2 ⊢
        rw [List.getElem?_eq_getElem h2]
        rfl
    rw [e1, z, e2]
    rfl
end K05
namespace K05
open DL
mutual
/-- ints and tuples of such -/
def tI : D → Bool
  | .int _ => true
  | .tup l => decide (l.length ≤ 900) && tIL l
  | _ => false
def tIL : List D → Bool
  | [] => true
  | d :: r => tI d && tIL r
end
theorem tIL_all : ∀ {l : List D}, tIL l = true ↔ ∀ d ∈ l, tI d = true
  | [] => by simp [tIL]
  | d :: r => by simp [tIL, tIL_all (l := r)]
theorem dpt_le : ∀ {l : List D} {d : D}, d ∈ l → dpt d ≤ dptL l
  | [], _, h => by cases h
  | a :: l, d, h => by
    rw [dptL]
    rcases List.mem_cons.mp h with h | h
    · subst h; omega
    · have := dpt_le h; omega
@[simp] theorem isD_int_non (i : Int) : isD (.int i) .non = .ret (.bl false) := rfl
theorem eq_nil : eqD (.lst []) (.lst []) = .ret (.bl true) := by
  rw [eqD_pl ⟨rfl, by decide⟩ ⟨rfl, by decide⟩]; simp
theorem ne_nil : neD (.lst []) (.lst []) = .ret (.bl false) := by
  rw [neD_pl ⟨rfl, by decide⟩ ⟨rfl, by decide⟩]; simp
theorem filter_none {α : Type} {l : List α} : l.filter (fun _ => false) = [] := by
  induction l with
  | nil => rfl
  | cons a r ih => rw [List.filter_cons]; simpa using ih
@[simp] theorem ne_bl (i j : Bool) : neD (.bl i) (.bl j) = .ret (.bl (!(i == j))) := by
  funext M; unfold neD eqB
  simp only [res, py]
  rw [if_pos ⟨rfl, rfl⟩]; rfl
theorem alike_run : ∀ (k : Nat) (d : D), tI d = true → dpt d < k → m__law_alike k [d, d] = .ret (.bl true)
  | 0, _, _, h => absurd h (Nat.not_lt_zero _)
  | k + 1, d, h, hd => by
    cases d with
    | int i =>
      refine fnD_pr (fun M => ?_) rfl
      unfold g__law_alike N__law_alike
      simp [startE]
    | tup l =>
      refine fnD_pr (fun M => ?_) rfl
      unfold g__law_alike N__law_alike
      rw [tI, Bool.and_eq_true] at h
      obtain ⟨hll, h⟩ := h
      have hll := of_decide_eq_true hll
      simp [startE]
      rw [rngD1_nat (by omega)]
      simp
      rw [comp_if (p := fun _ => false) (f := fun k : Nat => D.int k)]
      · rw [filter_none, List.map_nil, cmp_lst (by simp)]
        simp [eq_nil]
      · intro i hi
        rw [List.mem_range] at hi
        have e : subD' (.tup l) (.int i) = .ret l[i] := sub_tup (atD_nat (List.getElem?_eq_getElem hi))
        have ht : tI l[i] = true := tIL_all.mp h _ (List.getElem_mem hi)
        have hdp : dpt l[i] < k := by
          have := dpt_le (List.getElem_mem hi)
          rw [dpt] at hd
          omega
        have z := alike_run k l[i] ht hdp
        simp [turn1, wipeR, e, z]
    | _ => cases h
theorem is_place_int (m n a b : Int) : m_is_place [.int m, .int n, .tup [.int a, .int b]] = .ret (.bl (decide (0 ≤ a ∧ a ≤ m - 1 ∧ 0 ≤ b ∧ b ≤ n - 1))) := by
  refine fnD_pr (fun M => ?_) rfl
  unfold g_is_place N_is_place
  simp [startE, is_number_int]
  by_cases h1 : 0 ≤ a
  · by_cases h2 : a ≤ m - 1
    · simp [h1, h2]
    · simp [h1, h2]
  · simp [h1]
theorem is_place_bl (m n b : Int) (x : Bool) : m_is_place [.int m, .int n, .tup [.bl x, .int b]] = .ret (.bl false) := by
  refine fnD_pr (fun M => ?_) rfl
  unfold g_is_place N_is_place
  simp [startE, is_number_bl]
theorem is_place_1 (m n a : Int) : m_is_place [.int m, .int n, .tup [.int a]] = .ret (.bl false) := by
  refine fnD_pr (fun M => ?_) rfl
  unfold g_is_place N_is_place
  simp [startE]
theorem r12 : rngD2 [.int 1, .int 2] = .ret ⟨[.int 1], none⟩ := by funext M; rfl
theorem r11 : rngD2 [.int 1, .int 1] = .ret ⟨[], none⟩ := by funext M; rfl
theorem r10 : rngD2 [.int 1, .int 0] = .ret ⟨[], none⟩ := by funext M; rfl
def oddP : List D := [.non, .lst [], .tup [.int 1, .int 1], .tup [.int 61, .int 1, .tup []], .tup [.int 1, .int 1, .tup [.tup [.int 0, .int 1]]], .tup [.int 1, .int 1, .tup [.tup [.int 0, .int 0], .tup [.int 0, .int 0]]],
  .tup [.int 2, .int 1, .tup [.tup [.int 1, .int 0], .tup [.int 0, .int 0]]], .tup [.int 1, .int 1, .tup [.tup [.int 0]]], .tup [.int 1, .int 1, .lst [.tup [.int 0, .int 0]]], .tup [.int 1, .bl true, .tup []],
  .tup [.int 1, .int 1, .tup [.tup [.bl false, .int 0]]], .int 5]
theorem oddP_run : ∀ d ∈ oddP, m_is_pattern [d] = .ret (.bl false) := by
  unfold oddP
  intro d hd
  simp only [List.mem_cons, List.not_mem_nil, or_false] at hd
  rcases hd with rfl | rfl | rfl | rfl | rfl | rfl | rfl | rfl | rfl | rfl | rfl | rfl
  all_goals
    refine fnD_pr (fun M => ?_) rfl
    unfold g_is_pattern N_is_pattern
    simp [startE, is_number_int, is_number_bl, genL_cons, turnG, wipeR, is_place_int, is_place_bl, is_place_1, r12, r11, r10, ltD_pair]
def oddG : List D := [.non, .lst [], .tup [.int 2], .tup [.int 61, .tup []], .tup [.int 2, .tup [.tup [.int 1, .int 0]]], .tup [.int 2, .tup [.tup [.int 0, .int 0]]], .tup [.int 2, .tup [.tup [.int 0, .int 1], .tup [.int 0, .int 1]]],
  .tup [.int 2, .tup [.tup [.int 0, .int 2]]], .tup [.int 3, .tup [.tup [.int 1, .int 2], .tup [.int 0, .int 1]]], .tup [.int 2, .lst [.tup [.int 0, .int 1]]], .tup [.int 2, .tup [.tup [.bl false, .int 1]]], .tup [.bl true, .tup []], .int 5]
theorem oddG_run : ∀ d ∈ oddG, m_is_graph [d] = .ret (.bl false) := by
  unfold oddG
  intro d hd
  simp only [List.mem_cons, List.not_mem_nil, or_false] at hd
  rcases hd with rfl | rfl | rfl | rfl | rfl | rfl | rfl | rfl | rfl | rfl | rfl | rfl | rfl
  all_goals
    refine fnD_pr (fun M => ?_) rfl
    unfold g_is_graph N_is_graph
    simp [startE, is_number_int, is_number_bl, genL_cons, turnG, wipeR, is_place_int, is_place_bl, is_place_1, r12, r11, r10, ltD_pair]
theorem says_bl (a b : Bool) : m__law_says [.bl a, .bl b] = .ret (.bl (a == b)) := by
  refine fnD_pr (fun M => ?_) rfl
  unfold g__law_says N__law_says
  simp [startE]
end K05
namespace K05
open DL
def sM (L0 xs : List Int) (tb : List Ent) : Mem := [.lst (L0.map .int), .lst (xs.map .int), .dct true (kvs kP frD tb)]
theorem norefK_kvs (tb : List Ent) : norefK (kvs kP frD tb) = true := by
  induction tb with
  | nil => rfl
  | cons p r ih =>
    show (true && norefK (kvs kP frD r)) = true
    rw [ih]; rfl
theorem sM_nr (L0 xs : List Int) (tb : List Ent) : NR (sM L0 xs tb) := by
  intro o ho
  simp only [sM, List.mem_cons, List.not_mem_nil, or_false] at ho
  rcases ho with rfl | rfl | rfl
  · exact norefL_ints _
  · exact norefL_ints _
  · exact norefK_kvs _
theorem tk_run (L0 xs : List Int) (tb : List Ent) {b : Int} (hb : 0 < b) : ∃ (v : Int) (ys : List Int), m__law_take [.ref 1, .int b] (sM L0 xs tb) = some (.ok (.int v), sM L0 ys tb) ∧ 0 ≤ v ∧ v < b := by
  obtain ⟨v, ys, e, h1, h2⟩ := take_run (n := 1) (M := sM L0 xs tb) (xs := xs) rfl hb (sM_nr L0 xs tb)
  exact ⟨v, ys, e, h1, h2⟩
structure T1 (m n : Nat) (tb : List Ent) : Prop where
  nd : (tb.map (·.1)).Nodup
  inr : ∀ k ∈ tb.map (·.1), k.1 < m ∧ k.2 < n
  sm : ∀ k v, aGet tb k = some v → Sm 16 4 v
  low : ∀ k v, aGet tb k = some v → k.1 < 2 → Sm 4 2 v
theorem T1.nil (m n : Nat) : T1 m n [] := ⟨by simp, by simp, by simp [aGet], by simp [aGet]⟩
theorem T1.put {m n : Nat} {tb : List Ent} (t : T1 m n tb) {k : Nat × Nat} {v : Fr} (hk : k.1 < m ∧ k.2 < n) (hv : Sm 16 4 v) (hl : k.1 < 2 → Sm 4 2 v) : T1 m n (aPut tb k v) where
  nd := nodup_put t.nd
  inr := fun k' h => by
    rcases mem_keys_put.mp h with rfl | h
    · exact hk
    · exact t.inr _ h
  sm := fun k' v' h => by
    rw [aGet_put] at h
    split at h
    · cases h; exact hv
    · exact t.sm _ _ h
  low := fun k' v' h hlt => by
    rw [aGet_put] at h
    split at h
    · rename_i e
      cases h; subst e; exact hl hlt
    · exact t.low _ _ h hlt
theorem T1.len {m n : Nat} {tb : List Ent} (t : T1 m n tb) : tb.length ≤ m * n := by
  have z := len_pairs t.nd t.inr
  simpa using z
theorem store_sM {L0 xs : List Int} {tb : List Ent} {k : Nat × Nat} {v : Fr} {ρ : En} (hl : tb.length ≤ 900) : storeM (.ref 2) (.tup [.int k.1, .int k.2]) (frD v) ρ (sM L0 xs tb) = some (.ok ρ, sM L0 xs (aPut tb k v)) :=
  store_dct (M := sM L0 xs tb) (n := 2) rfl (by rw [kvs_len]; omega) (putB_kP frD (l := tb) (k := k) (v := v))
theorem sl1_run {m n : Nat} {L0 xs : List Int} {tb : List Ent} {A B c d : Option D} {many : Int} {k j : Nat} {nu : Option D} (hm : m ≤ 6) (hn : n ≤ 6) (hk : k < m) (hj : j < n) (t : T1 m n tb) :
    ∃ (nu' : Option D) (ys : List Int) (tb' : List Ent), l1__law_system [some (.ref 1), A, B, some (.int many), some (.int k), some (.int j), some (.ref 2), nu, c, d] (sM L0 xs tb) =
      some (.nx [some (.ref 1), A, B, some (.int many), some (.int k), some (.int j), some (.ref 2), nu', c, d], sM L0 ys tb') ∧ T1 m n tb' := by
  have hmn : m * n ≤ 36 := Nat.mul_le_mul hm hn
  have hlen := t.len
  obtain ⟨v1, x1, e1, a1, b1⟩ := tk_run L0 xs tb (b := 100) (by decide)
  by_cases h1 : v1 < many
  · obtain ⟨v2, x2, e2, a2, b2⟩ := tk_run L0 x1 tb (b := 9) (by decide)
    by_cases h2 : v2 - 4 = 0
    · refine ⟨some (.int (v2 - 4)), x2, tb, ?_, t⟩
      unfold l1__law_system
      simp [sE, Mo.bnd, Mo.ret, e1, h1, e2, h2]
    · obtain ⟨v3, x3, e3, a3, b3⟩ := tk_run L0 x2 tb (b := 2) (by decide)
      obtain ⟨v4, x4, e4, a4, b4⟩ := tk_run L0 x3 tb (b := 2) (by decide)
      have hp : 0 ≤ v3 * v4 ∧ v3 * v4 ≤ 1 := by
        have c3 : v3 = 0 ∨ v3 = 1 := by omega
        rcases c3 with rfl | rfl
        · simp
        · omega
      refine ⟨some (.int (v2 - 4)), x4, aPut tb (k, j) (v2 - 4, 1 + v3 * v4), ?_, t.put ⟨hk, hj⟩ ⟨?_, ?_, ?_, ?_⟩ fun _ => ⟨?_, ?_, ?_, ?_⟩⟩
      · have hst := store_sM (L0 := L0) (xs := x4) (tb := tb) (k := (k, j)) (v := (v2 - 4, 1 + v3 * v4)) (ρ := [some (.ref 1), A, B, some (.int many), some (.int k), some (.int j), some (.ref 2), some (.int (v2 - 4)), c, d]) (by omega)
        unfold frD at hst
        simp only [] at hst
        unfold l1__law_system
        simp [sE, Mo.bnd, Mo.ret, e1, h1, e2, h2, e3, e4, mul_int (mul_ok' (i := v3) (j := v4) (by omega)), s0, hst]
      all_goals
        simp only []
        omega
  · refine ⟨nu, x1, tb, ?_, t⟩
    unfold l1__law_system
    simp [sE, Mo.bnd, Mo.ret, e1, h1]
theorem getF_sm {m n : Nat} {tb : List Ent} (t : T1 m n tb) {k : Nat × Nat} (hk : k.1 < 2) : Sm 4 2 (getF tb k) := by
  unfold getF
  cases e : aGet tb k with
  | none => exact ⟨by decide, by decide, by decide, by decide⟩
  | some v => exact t.low _ _ e hk
theorem sl3_run {m n : Nat} {L0 xs : List Int} {tb : List Ent} {B c d e f k : Option D} {j : Nat} (hm : m ≤ 6) (hm2 : 2 < m) (hn : n ≤ 6) (hj : j < n) (t : T1 m n tb) :
    ∃ (tb' : List Ent), l3__law_system [some (.ref 1), some (.int m), B, c, k, some (.int j), some (.ref 2), d, e, f] (sM L0 xs tb) =
      some (.nx [some (.ref 1), some (.int m), B, c, k, some (.int j), some (.ref 2), d, e, f], sM L0 xs tb') ∧ T1 m n tb' := by
  have hmn : m * n ≤ 36 := Nat.mul_le_mul hm hn
  have hlen := t.len
  have hr : res (sM L0 xs tb) (.ref 2) = .dct true (kvs kP frD tb) := res_ref rfl
  have g0 := get_dct (v := .tup [.int 0, .int 1]) hr (lookB_kP frD (l := tb) (k := (0, j)))
  have g1 := get_dct (v := .tup [.int 0, .int 1]) hr (lookB_kP frD (l := tb) (k := (1, j)))
  rw [getF_map] at g0 g1
  have s0' := getF_sm t (k := (0, j)) (show 0 < 2 by decide)
  have s1' := getF_sm t (k := (1, j)) (show 1 < 2 by decide)
  have sp := Sm.plus s0' s1'
  have e1 : ((m : Int) - 1) = ((m - 1 : Nat) : Int) := by omega
  refine ⟨aPut tb (m - 1, j) (plusF (getF tb (0, j)) (getF tb (1, j))), ?_, t.put ⟨by show m - 1 < m; omega, hj⟩ (sp.1.mono (by decide) (by decide)) fun h => absurd h (by show ¬ (m - 1 < 2); omega)⟩
  have hst := store_sM (L0 := L0) (xs := xs) (tb := tb) (k := (m - 1, j)) (v := plusF (getF tb (0, j)) (getF tb (1, j))) (ρ := [some (.ref 1), some (.int m), B, c, k, some (.int j), some (.ref 2), d, e, f]) (by omega)
  have hp := lplus_run (s0'.mono (by decide) (by decide)) (s1'.mono (by decide) (by decide))
  unfold eP at g0 g1
  simp at g0 g1
  unfold l3__law_system
  simp [sE, Mo.bnd, Mo.ret, chk_dc hr, g0, g1, hp, s0, e1, hst]
end K05
namespace K05
open DL
def dM2 (L0 xs : List Int) : Mem := [.lst (L0.map .int), .lst (xs.map .int)]
def entsF (tb : List Ent) : List Ent := ((sortP (tb.map (·.1))).filter fun k => decide ((getF tb k).1 ≠ 0)).map fun k => (k, lowF (getF tb k).1 (getF tb k).2)
theorem T1.key {m n : Nat} {tb : List Ent} (t : T1 m n tb) {k : Nat × Nat} (h : k ∈ tb.map (·.1)) : Sm 16 4 (getF tb k) := by
  rw [aGet_key] at h
  obtain ⟨v, hv⟩ := h
  unfold getF
  rw [hv]
  exact t.sm _ _ hv
theorem ents_good {m n : Nat} {tb : List Ent} (t : T1 m n tb) : Good m n (entsF tb) := by
  have z : ∀ e ∈ entsF tb, e.1 ∈ tb.map (·.1) ∧ (getF tb e.1).1 ≠ 0 ∧ e.2 = lowF (getF tb e.1).1 (getF tb e.1).2 := by
    intro e he
    obtain ⟨k, hk, rfl⟩ := List.mem_map.mp he
    rw [List.mem_filter, sortP_mem] at hk
    exact ⟨hk.1, of_decide_eq_true hk.2, rfl⟩
  refine ⟨?_, fun e he => t.inr _ (z e he).1, fun e he => ?_, fun e he => ?_, fun e he => ?_⟩
  · unfold entsF
    rw [List.pairwise_map]
    exact pw_filter (sortP_lt t.nd)
  · obtain ⟨h1, _, h3⟩ := z e he
    have s := t.key h1
    obtain ⟨s1, s2, s3, s4⟩ := s
    obtain ⟨_, l2, l3, l4, _⟩ := low_ok (p := (getF tb e.1).1) s3
    rw [h3]
    exact ⟨by omega, by omega, l2, by omega⟩
  · obtain ⟨h1, _, h3⟩ := z e he
    rw [h3]
    exact (low_ok (t.key h1).2.2.1).1
  · obtain ⟨h1, h2, h3⟩ := z e he
    rw [h3]
    intro q
    exact h2 ((low_ok (t.key h1).2.2.1).2.2.2.2.mp q)
def SR (m n : Nat) (many : Int) (k j nu e r : Option D) : En := [some (.ref 1), some (.int m), some (.int n), some (.int many), k, j, some (.ref 2), nu, e, r]
theorem sl2_run {m n : Nat} {L0 xs : List Int} {tb : List Ent} {many : Int} {k : Nat} {j nu : Option D} (hm : m ≤ 6) (hn : n ≤ 6) (hk : k < m) (t : T1 m n tb) :
    ∃ (j' nu' : Option D) (ys : List Int) (tb' : List Ent), l2__law_system (SR m n many (some (.int k)) j nu none none) (sM L0 xs tb) = some (.nx (SR m n many (some (.int k)) j' nu' none none), sM L0 ys tb') ∧ T1 m n tb' := by
  obtain ⟨ρ1, M1, e1, j', nu', ys, tb', rfl, rfl, ht⟩ := forL_ind (h := fun d ρ => .ret (ρ.set 5 (some d))) (body := l1__law_system)
    (fun i ρ M' => ∃ (j nu : Option D) (ys : List Int) (tb : List Ent), ρ = SR m n many (some (.int k)) j nu none none ∧ M' = sM L0 ys tb ∧ T1 m n tb)
    ((List.range n).map fun k => .int (k : Nat)) 0 (SR m n many (some (.int k)) j nu none none) (sM L0 xs tb) ⟨j, nu, xs, tb, rfl, rfl, t⟩ (by
      intro i dd ρ M hi ⟨j, nu, ys, tb, e1, e2, ht⟩
      subst e1 e2
      obtain ⟨hi', hd⟩ := List.getElem?_eq_some_iff.mp hi
      rw [List.length_map, List.length_range] at hi'
      simp at hd
      subst hd
      obtain ⟨nu', zs, tb', e3, t3⟩ := sl1_run (A := some (.int m)) (B := some (.int n)) (c := none) (d := none) (many := many) (nu := nu) (L0 := L0) (xs := ys) hm hn hk hi' ht
      exact ⟨_, _, rfl, _, _, .inl e3, _, _, zs, tb', rfl, rfl, t3⟩)
  refine ⟨j', nu', ys, tb', ?_, ht⟩
  unfold l2__law_system
  have hr := rngD1_nat (n := n) (by omega)
  simp only [for_app]
  rw [← e1]
  simp [SR, hr]
theorem right_run {m : Nat} {L0 xs : List Int} {tb : List Ent} {ρ : En} (hρ : ρ[0]? = some (some (.ref 1))) (h4 : 4 < ρ.length) :
    ∃ (bs : List D) (ys : List Int), compL none (turn1 ρ (fun d ρ => .ret (ρ.set 4 (some d))) (fun _ => .ret true) (one' fun ρ => .bnd (.bnd (.bnd (.bnd (.bnd (getV ρ 0) fun d => .bnd (.bnd (.ret (.int 9)) fun d => .bnd (.ret []) fun ds => .ret (d :: ds)) fun ds => .ret (d :: ds)) (m__law_take)) fun a => .bnd (.ret (.int 4)) fun b => subD a b) fun d => .bnd (.bnd (.ret (.int 1)) fun d => .bnd (.ret []) fun ds => .ret (d :: ds)) fun ds => .ret (d :: ds)) tupD)) ((List.range m).map fun k => .int (k : Nat)) (sM L0 xs tb) = some (.ok bs, sM L0 ys tb) ∧ bs.length = m ∧ norefL bs = true := by
  obtain ⟨bs, M', e, ⟨ys, rfl⟩, hl, hp⟩ := comp_exM (turn := turn1 ρ (fun d ρ => .ret (ρ.set 4 (some d))) (fun _ => .ret true) (one' fun ρ => .bnd (.bnd (.bnd (.bnd (.bnd (getV ρ 0) fun d => .bnd (.bnd (.ret (.int 9)) fun d => .bnd (.ret []) fun ds => .ret (d :: ds)) fun ds => .ret (d :: ds)) (m__law_take)) fun a => .bnd (.ret (.int 4)) fun b => subD a b) fun d => .bnd (.bnd (.ret (.int 1)) fun d => .bnd (.ret []) fun ds => .ret (d :: ds)) fun ds => .ret (d :: ds)) tupD))
    (fun M => ∃ ys, M = sM L0 ys tb) (fun b => noref b = true) (l := (List.range m).map fun k => .int (k : Nat)) (M := sM L0 xs tb) ⟨xs, rfl⟩ (by
      rintro d hd M ⟨ys, rfl⟩
      obtain ⟨v, zs, e1, _, _⟩ := tk_run L0 ys tb (b := 9) (by decide)
      refine ⟨.tup [.int (v - 4), .int 1], _, ?_, ⟨zs, rfl⟩, rfl⟩
      have hg : ∀ x, getV (ρ.set 4 x) 0 = .ret (.ref 1) := fun x => getV_some (by rw [List.getElem?_set_ne (by decide)]; exact hρ)
      simp [turn1, one', Mo.bnd, Mo.ret, hg, e1])
  refine ⟨bs, ys, e, by simpa using hl, ?_⟩
  rw [norefL_all, List.all_eq_true]
  exact hp
theorem system_run {m n : Nat} {L0 xs : List Int} {many : Int} (hm : m ≤ 6) (hn : n ≤ 6) :
    ∃ (es : List Ent) (rt : List D) (ys : List Int), m__law_system [.ref 1, .int m, .int n, .int many] (dM2 L0 xs) = some (.ok (.tup [matD m n es, .tup rt]), dM2 L0 ys) ∧ Good m n es ∧ norefL rt = true := by
  obtain ⟨ρ1, M1, e1, k1, j1, nu1, x1, tb1, rfl, rfl, t1⟩ := forL_ind (h := fun d ρ => .ret (ρ.set 4 (some d))) (body := l2__law_system)
    (fun i ρ M' => ∃ (k j nu : Option D) (ys : List Int) (tb : List Ent), ρ = SR m n many k j nu none none ∧ M' = sM L0 ys tb ∧ T1 m n tb)
    ((List.range m).map fun k => .int (k : Nat)) 0 (SR m n many none none none none none) (sM L0 xs []) ⟨none, none, none, xs, [], rfl, rfl, T1.nil m n⟩ (by
      intro i dd ρ M hi ⟨k, j, nu, ys, tb, e1, e2, ht⟩
      subst e1 e2
      obtain ⟨hi', hd⟩ := List.getElem?_eq_some_iff.mp hi
      rw [List.length_map, List.length_range] at hi'
      simp at hd
      subst hd
      obtain ⟨j', nu', zs, tb', e3, t3⟩ := sl2_run (many := many) (j := j) (nu := nu) (L0 := L0) (xs := ys) hm hn hi' ht
      exact ⟨_, _, rfl, _, _, .inl e3, _, _, _, zs, tb', rfl, rfl, t3⟩)
  -- the sum of two rows
  have h3 : ∃ (j2 : Option D) (x2 : List Int) (tb2 : List Ent), (sIf (fun ρ => .bnd (.bnd (.bnd (getV ρ 1) fun a => .bnd (.ret (.int 2)) fun b => gtD a b) boolD) fun z => cond z (.bnd (.bnd (.bnd (.bnd (getV ρ 0) fun d => .bnd (.bnd (.ret (.int 3)) fun d => .bnd (.ret []) fun ds => .ret (d :: ds)) fun ds => .ret (d :: ds)) (m__law_take)) fun a => .bnd (.ret (.int 0)) fun b => eqD a b) boolD) (.ret false))
      (sFor (fun ρ => .bnd (.bnd (getV ρ 2) fun d => .bnd (.ret []) fun ds => .ret (d :: ds)) rngD1) (fun d ρ => .ret (ρ.set 5 (some d))) l3__law_system)
      (sNext)) (SR m n many k1 j1 nu1 none none) (sM L0 x1 tb1) = some (.nx (SR m n many k1 j2 nu1 none none), sM L0 x2 tb2) ∧ T1 m n tb2 := by
    by_cases hm2 : 2 < m
    · have hm2' : (2 : Int) < m := by omega
      obtain ⟨v, x2, e2, _, _⟩ := tk_run L0 x1 tb1 (b := 3) (by decide)
      by_cases hv : v = 0
      · obtain ⟨ρ3, M3, e3, j3, tb3, rfl, rfl, t3⟩ := forL_ind (h := fun d ρ => .ret (ρ.set 5 (some d))) (body := l3__law_system)
          (fun i ρ M' => ∃ (j : Option D) (tb : List Ent), ρ = SR m n many k1 j nu1 none none ∧ M' = sM L0 x2 tb ∧ T1 m n tb)
          ((List.range n).map fun k => .int (k : Nat)) 0 (SR m n many k1 j1 nu1 none none) (sM L0 x2 tb1) ⟨j1, tb1, rfl, rfl, t1⟩ (by
            intro i dd ρ M hi ⟨j, tb, e1, e2, ht⟩
            subst e1 e2
            obtain ⟨hi', hd⟩ := List.getElem?_eq_some_iff.mp hi
            rw [List.length_map, List.length_range] at hi'
            simp at hd
            subst hd
            obtain ⟨tb', e3, t3⟩ := sl3_run (B := some (.int n)) (c := some (.int many)) (k := k1) (d := nu1) (e := none) (f := none) (L0 := L0) (xs := x2) hm hm2 hn hi' ht
            exact ⟨_, _, rfl, _, _, .inl e3, _, tb', rfl, rfl, t3⟩)
        refine ⟨j3, x2, tb3, ?_, t3⟩
        have hr := rngD1_nat (n := n) (by omega)
        subst hv
        have e3' : forL none (fun d ρ => .ret (ρ.set 5 (some d))) l3__law_system ((List.range n).map fun k => .int (k : Nat)) [some (.ref 1), some (.int m), some (.int n), some (.int many), k1, j1, some (.ref 2), nu1, none, none] (sM L0 x2 tb1) = _ := e3
        simp [SR, hm2, hm2', sE, Mo.bnd, Mo.ret, e2]
        rw [hr]
        exact e3'
      · refine ⟨j1, x2, tb1, ?_, t1⟩
        simp [SR, hm2, hm2', sE, Mo.bnd, Mo.ret, e2, hv]
    · have hm2' : ¬ (2 : Int) < m := by omega
      refine ⟨j1, x1, tb1, ?_, t1⟩
      simp [SR, hm2, hm2']
  obtain ⟨j2, x2, tb2, e3, t2⟩ := h3
  have hmn : m * n ≤ 36 := Nat.mul_le_mul hm hn
  have hl2 := t2.len
  obtain ⟨bs, x5, e5, lb, nb⟩ := right_run (m := m) (L0 := L0) (xs := x2) (tb := tb2) (ρ := wipeR (SR m n many k1 j2 nu1 (some (.tup ((entsF tb2).map entD))) none) [4]) rfl (show 4 < 10 by decide)
  have g := ents_good t2
  have hgl := g.len
  refine ⟨entsF tb2, bs, x5, ?_, g, nb⟩
  have hrm := rngD1_nat (n := m) (by omega)
  unfold m__law_system fnD g__law_system N__law_system
  have a1 : (fun ρ => sE (finDO true (.dct true []) (.dct true [])) ρ fun d M => some (Fl.nx (ρ.set 6 (some d)), M)) (startE ["draws", "rows", "columns", "many", "k", "j", "table", "number", "entries", "right"] [.ref 1, .int m, .int n, .int many]) (dM2 L0 xs) = some (.nx (SR m n many none none none none none), sM L0 xs []) := by
    simp [startE, sE, dM2, SR, sM, kvs]
  rw [run_seq a1]
  have a2 : sFor (fun ρ => .bnd (.bnd (getV ρ 1) fun d => .bnd (.ret []) fun ds => .ret (d :: ds)) rngD1) (fun d ρ => .ret (ρ.set 4 (some d))) l2__law_system (SR m n many none none none none none) (sM L0 xs []) = some (.nx (SR m n many k1 j1 nu1 none none), sM L0 x1 tb1) := by
    simp only [for_app]
    rw [← e1]
    simp [SR, hrm]
  rw [run_seq a2, run_seq e3]
  have a4 : sE (.bnd (.bnd (.bnd (.bnd (.bnd (.bnd (.bnd (.bnd (getV (SR m n many k1 j2 nu1 none none) 6) fun d => .bnd (.ret []) fun ds => .ret (d :: ds)) (arg1 (listA false))) fun d => .bnd (.ret []) fun ds => .ret (d :: ds)) (arg1 (sortedD false))) itD) fun it => cmpD false stL [] .lst .lst (compL it.gd (turn1 (wipeR (SR m n many k1 j2 nu1 none none) [4, 5]) (fun d ρ => .bnd (itemsT 2 d) fun ds => (gConsD (fun d ρ => .ret (ρ.set 4 (some d))) (gConsD (fun d ρ => .ret (ρ.set 5 (some d))) gNilD)) ds ρ) (fun ρ => .bnd (.bnd (.bnd (.bnd (getV ρ 6) fun a => .bnd (.bnd (.bnd (getV ρ 4) fun d => .bnd (.bnd (getV ρ 5) fun d => .bnd (.ret []) fun ds => .ret (d :: ds)) fun ds => .ret (d :: ds)) tupD) fun b => subD' a b) fun a => .bnd (.ret (.int 0)) fun b => subD' a b) fun a => .bnd (.ret (.int 0)) fun b => neD a b) boolD) (one' fun ρ => .bnd (.bnd (getV ρ 4) fun d => .bnd (.bnd (getV ρ 5) fun d => .bnd (.bnd (.bnd (.bnd (.bnd (.bnd (getV ρ 6) fun a => .bnd (.bnd (.bnd (getV ρ 4) fun d => .bnd (.bnd (getV ρ 5) fun d => .bnd (.ret []) fun ds => .ret (d :: ds)) fun ds => .ret (d :: ds)) tupD) fun b => subD' a b) fun a => .bnd (.ret (.int 0)) fun b => subD' a b) fun d => .bnd (.bnd (.bnd (.bnd (getV ρ 6) fun a => .bnd (.bnd (.bnd (getV ρ 4) fun d => .bnd (.bnd (getV ρ 5) fun d => .bnd (.ret []) fun ds => .ret (d :: ds)) fun ds => .ret (d :: ds)) tupD) fun b => subD' a b) fun a => .bnd (.ret (.int 1)) fun b => subD' a b) fun d => .bnd (.ret []) fun ds => .ret (d :: ds)) fun ds => .ret (d :: ds)) (m__law_made)) fun d => .bnd (.ret []) fun ds => .ret (d :: ds)) fun ds => .ret (d :: ds)) fun ds => .ret (d :: ds)) tupD)) it.items)) fun d => .bnd (.ret []) fun ds => .ret (d :: ds)) (arg1 tupleD)) (SR m n many k1 j2 nu1 none none) (fun d M => some (Fl.nx ((SR m n many k1 j2 nu1 none none).set 8 (some d)), M)) (sM L0 x2 tb2) = some (.nx (SR m n many k1 j2 nu1 (some (.tup ((entsF tb2).map entD))) none), sM L0 x2 tb2) := by
    have hr : res (sM L0 x2 tb2) (.ref 2) = .dct true (kvs kP frD tb2) := res_ref rfl
    have h1 : listA false (.ref 2) (sM L0 x2 tb2) = some (.ok (.lst ((tb2.map (·.1)).map eP)), sM L0 x2 tb2) := by
      unfold listA seqK
      rw [hr]
      simp only [kvs_keys]
      rfl
    have h2 : sortedD false (.lst ((tb2.map (·.1)).map eP)) (sM L0 x2 tb2) = some (.ok (.lst ((sortP (tb2.map (·.1))).map eP)), sM L0 x2 tb2) := sortedD_eP rfl
    have hg : ∀ k ∈ sortP (tb2.map (·.1)), subD' (.ref 2) (.tup [.int k.1, .int k.2]) (sM L0 x2 tb2) = some (.ok (frD (getF tb2 k)), sM L0 x2 tb2) := by
      intro k hk
      rw [sortP_mem, aGet_key] at hk
      obtain ⟨v, hv⟩ := hk
      refine sub_dct hr ?_
      have z := lookB_kP frD (l := tb2) (k := k)
      unfold getF
      rw [hv] at z ⊢
      exact z
    have hle : ((entsF tb2).map entD).length ≤ 1000000 := by rw [List.length_map]; omega
    have hty : ∀ k ∈ sortP (tb2.map (·.1)), Sm 16 4 (getF tb2 k) := fun k hk => t2.key (sortP_mem.mp hk)
    have hE : (entsF tb2).map entD = ((sortP (tb2.map (·.1))).filter fun k => decide ((getF tb2 k).1 ≠ 0)).map fun k => entD (k, lowF (getF tb2 k).1 (getF tb2 k).2) := by
      unfold entsF; rw [List.map_map]; rfl
    generalize tb2.map (·.1) = ks at h1 h2 hg hty hE
    simp [SR, wipeR, sE, Mo.bnd, Mo.ret, h1, h2]
    rw [cmp_lstM (comp_ifM (g := eP) (l := sortP ks) (p := fun k => decide ((getF tb2 k).1 ≠ 0)) (f := fun k => entD (k, lowF (getF tb2 k).1 (getF tb2 k).2)) ?_) ?_]
    · rw [← hE]
      rfl
    · intro k hk
      have hk1 := hg k hk
      obtain ⟨s1, s2, s3, s4⟩ := hty k hk
      have hmd := made_run (p := (getF tb2 k).1) (q := (getF tb2 k).2) (by omega) s3 (by omega)
      unfold frD at hk1
      by_cases q : (getF tb2 k).1 = 0
      · simp [turn1, eP, one', entD, hk1, Mo.bnd, Mo.ret, q]
      · simp [turn1, eP, one', entD, hk1, Mo.bnd, Mo.ret, q, hmd]
    · rw [← hE]; exact hle
  rw [run_seq a4]
  have hbs : bs.length ≤ 1000000 := by omega
  have a5 : sSeq (fun ρ => sE (.bnd (.bnd (.bnd (.bnd (.bnd (getV ρ 1) fun d => .bnd (.ret []) fun ds => .ret (d :: ds)) rngD1) fun it => cmpD false stL [] .lst .lst (compL it.gd (turn1 (wipeR ρ [4]) (fun d ρ => .ret (ρ.set 4 (some d))) (fun _ => .ret true) (one' fun ρ => .bnd (.bnd (.bnd (.bnd (.bnd (getV ρ 0) fun d => .bnd (.bnd (.ret (.int 9)) fun d => .bnd (.ret []) fun ds => .ret (d :: ds)) fun ds => .ret (d :: ds)) (m__law_take)) fun a => .bnd (.ret (.int 4)) fun b => subD a b) fun d => .bnd (.bnd (.ret (.int 1)) fun d => .bnd (.ret []) fun ds => .ret (d :: ds)) fun ds => .ret (d :: ds)) tupD)) it.items)) fun d => .bnd (.ret []) fun ds => .ret (d :: ds)) (arg1 tupleD)) ρ fun d M => some (.nx (ρ.set 9 (some d)), M))
      (fun ρ => sE (.bnd (.bnd (.bnd (.bnd (getV ρ 1) fun d => .bnd (.bnd (getV ρ 2) fun d => .bnd (.bnd (getV ρ 8) fun d => .bnd (.ret []) fun ds => .ret (d :: ds)) fun ds => .ret (d :: ds)) fun ds => .ret (d :: ds)) tupD) fun d => .bnd (.bnd (getV ρ 9) fun d => .bnd (.ret []) fun ds => .ret (d :: ds)) fun ds => .ret (d :: ds)) tupD) ρ fun d M => some (.ret d, M))
      (SR m n many k1 j2 nu1 (some (.tup ((entsF tb2).map entD))) none) (sM L0 x2 tb2) = some (.ret (.tup [matD m n (entsF tb2), .tup bs]), sM L0 x5 tb2) := by
    have e1' : (fun ρ => sE (.bnd (.bnd (.bnd (.bnd (.bnd (getV ρ 1) fun d => .bnd (.ret []) fun ds => .ret (d :: ds)) rngD1) fun it => cmpD false stL [] .lst .lst (compL it.gd (turn1 (wipeR ρ [4]) (fun d ρ => .ret (ρ.set 4 (some d))) (fun _ => .ret true) (one' fun ρ => .bnd (.bnd (.bnd (.bnd (.bnd (getV ρ 0) fun d => .bnd (.bnd (.ret (.int 9)) fun d => .bnd (.ret []) fun ds => .ret (d :: ds)) fun ds => .ret (d :: ds)) (m__law_take)) fun a => .bnd (.ret (.int 4)) fun b => subD a b) fun d => .bnd (.bnd (.ret (.int 1)) fun d => .bnd (.ret []) fun ds => .ret (d :: ds)) fun ds => .ret (d :: ds)) tupD)) it.items)) fun d => .bnd (.ret []) fun ds => .ret (d :: ds)) (arg1 tupleD)) ρ fun d M => some (Fl.nx (ρ.set 9 (some d)), M)) (SR m n many k1 j2 nu1 (some (.tup ((entsF tb2).map entD))) none) (sM L0 x2 tb2) = some (.nx (SR m n many k1 j2 nu1 (some (.tup ((entsF tb2).map entD))) (some (.tup bs))), sM L0 x5 tb2) := by
      have hc := cmp_lstM e5 hbs
      refine (sE_M (a := .tup bs) (M1 := sM L0 x5 tb2) ?_).trans rfl
      · have g1 : getV (SR m n many k1 j2 nu1 (some (.tup ((entsF tb2).map entD))) none) 1 = .ret (.int m) := getV_some rfl
        rw [g1]
        simp only [bnd_r, hrm]
        rw [bnd_M (bnd_M hc)]
        rfl
    rw [run_seq e1']
    simp [SR, matD]
  rw [a5]
  have hnr : ∀ o ∈ (sM L0 x5 tb2).take (dM2 L0 xs).length, norefO o = true := fun o ho => sM_nr L0 x5 tb2 o (List.mem_of_mem_take ho)
  rw [fnR_noref ?_ hnr]
  · rfl
  · simp [noref, norefL, noref_mat, nb]
end K05
namespace K05
open DL
/-- pairs in a list of pairs -/
theorem eP_inj {a b : Nat × Nat} (h : eP a = eP b) : a = b := by
  unfold eP at h
  simp only [D.tup.injEq, List.cons.injEq, D.int.injEq, and_true] at h
  obtain ⟨h1, h2⟩ := h
  ext <;> omega
theorem eP_ok (a : Nat × Nat) : okD (eP a) := ⟨rfl, by show 1 ≤ 64; decide⟩
theorem eP_mem {a : Nat × Nat} {l : List (Nat × Nat)} : eP a ∈ l.map eP ↔ a ∈ l := by
  rw [List.mem_map]
  constructor
  · rintro ⟨b, hb, e⟩
    rw [← eP_inj e]; exact hb
  · intro h; exact ⟨a, h, rfl⟩
theorem lst_eP_ok (l : List (Nat × Nat)) : okD (.lst (l.map eP)) := by
  constructor
  · have := pl_map (f := eP) (fun a => rfl) l
    simpa [pl] using this
  · have := dpt_map (f := eP) (k := 1) (fun a => Nat.le_refl _) l
    rw [dpt]; omega
theorem in_eP (a : Nat × Nat) (l : List (Nat × Nat)) : inAll (eP a) (.lst (l.map eP)) = .ret (.bl (decide (a ∈ l))) := by
  rw [(inAll_pl (eP_ok a) (lst_eP_ok l)).1]
  by_cases h : a ∈ l
  · simp [h, eP_mem]
  · simp [h, eP_mem]
theorem lst_eN_ok (l : List Nat) : okD (.lst (l.map eN)) := by
  constructor
  · have := pl_map (f := eN) (fun a => rfl) l
    simpa [pl] using this
  · have := dpt_map (f := eN) (k := 0) (fun a => Nat.le_refl _) l
    rw [dpt]; omega
theorem ne_nil_eN (l : List Nat) : neD (.lst (l.map eN)) (.lst []) = .ret (.bl (!l.isEmpty)) := by
  rw [neD_pl (lst_eN_ok l) ⟨rfl, by decide⟩]
  cases l <;> simp
/-- the lines of the words -/
def row (n : Nat) (P : Nat → Nat → Bool) (j : Nat) : List (Nat × Nat) := ((List.range' (j + 1) (n - (j + 1))).filter (P j)).map fun c => (j, c)
def lns (n : Nat) (P : Nat → Nat → Bool) (i : Nat) : List (Nat × Nat) := (List.range i).flatMap (row n P)
theorem lns_succ (n : Nat) (P : Nat → Nat → Bool) (i : Nat) : lns n P (i + 1) = lns n P i ++ row n P i := by
  unfold lns
  rw [List.range_succ, List.flatMap_append]
  simp
theorem row_mem {n : Nat} {P : Nat → Nat → Bool} {j : Nat} {x : Nat × Nat} : x ∈ row n P j ↔ x.1 = j ∧ j < x.2 ∧ x.2 < n ∧ P j x.2 = true := by
  unfold row
  rw [List.mem_map]
  constructor
  · rintro ⟨c, h, rfl⟩
    rw [List.mem_filter, List.mem_range'_1] at h
    refine ⟨rfl, ?_, ?_, h.2⟩
    · show j < c; omega
    · show c < n; omega
  · rintro ⟨h1, h2, h3, h4⟩
    refine ⟨x.2, List.mem_filter.mpr ⟨List.mem_range'_1.mpr ⟨by omega, by omega⟩, h4⟩, ?_⟩
    rw [← h1]
theorem lns_mem {n : Nat} {P : Nat → Nat → Bool} {i : Nat} {x : Nat × Nat} : x ∈ lns n P i ↔ x.1 < i ∧ x.1 < x.2 ∧ x.2 < n ∧ P x.1 x.2 = true := by
  unfold lns
  rw [List.mem_flatMap]
  constructor
  · rintro ⟨j, hj, h⟩
    rw [row_mem] at h
    obtain ⟨h1, h2, h3, h4⟩ := h
    subst h1
    exact ⟨List.mem_range.mp hj, h2, h3, h4⟩
  · rintro ⟨h1, h2, h3, h4⟩
    exact ⟨x.1, List.mem_range.mpr h1, row_mem.mpr ⟨rfl, h2, h3, h4⟩⟩
theorem lns_pw (n : Nat) (P : Nat → Nat → Bool) : ∀ i, (lns n P i).Pairwise ltP
  | 0 => by simp [lns]
  | i + 1 => by
    rw [lns_succ, List.pairwise_append]
    refine ⟨lns_pw n P i, ?_, fun a ha b hb => ?_⟩
    · unfold row
      rw [List.pairwise_map]
      refine pw_filter ((List.pairwise_lt_range' (s := i + 1) (n := n - (i + 1))).imp fun h => ?_)
      exact .inr ⟨rfl, h⟩
    · rw [lns_mem] at ha
      rw [row_mem] at hb
      exact .inl (by omega)
theorem pw_nodup {l : List (Nat × Nat)} (h : l.Pairwise ltP) : l.Nodup := h.imp fun {a b} h (e : a = b) => by rw [e] at h; exact ltP.irr h
theorem lns_len {n i : Nat} {P : Nat → Nat → Bool} (hi : i ≤ 6) (hn : n ≤ 6) : (lns n P i).length ≤ 36 := by
  have z := len_pairs (m := i) (n := n) (pw_nodup (lns_pw n P i)) fun a ha => by
    rw [lns_mem] at ha
    exact ⟨ha.1, ha.2.2.1⟩
  have : i * n ≤ 36 := Nat.mul_le_mul hi hn
  omega
theorem row_len {n j : Nat} {P : Nat → Nat → Bool} : (row n P j).length ≤ n := by
  unfold row
  rw [List.length_map]
  have := List.length_filter_le (P j) (List.range' (j + 1) (n - (j + 1)))
  simp at this
  omega
/-- the state of the law's loop -/
def LS (S m n j mat pat pl li gr nr : Option D) : En := [S, none, j, none, none, none, some (.ref 1), m, n, mat, pat, pl, li, gr, nr, none, none]
def Psh (m : Nat) (ps : List (Nat × Nat)) (j c : Nat) : Bool := !((List.range m).filter fun k => decide ((k, j) ∈ ps) && decide ((k, c) ∈ ps)).isEmpty
theorem Psh_iff {m : Nat} {ps : List (Nat × Nat)} {j c : Nat} : Psh m ps j c = true ↔ ∃ k, k < m ∧ (k, j) ∈ ps ∧ (k, c) ∈ ps := by
  unfold Psh
  simp only [Bool.not_eq_true', List.isEmpty_eq_false_iff_exists_mem, List.mem_filter, List.mem_range, Bool.and_eq_true, decide_eq_true_eq]
theorem l1_law_run {S mm nn pat gr nr : Option D} {M : Mem} {m n j : Nat} {es : List Ent} {ls : List (Nat × Nat)} (hm : m ≤ 6) (hn : n ≤ 6) (hj : j < n) (hls : ls.length ≤ 36) :
    l1_law (LS S mm nn (some (.int j)) (some (matD m n es)) pat (some (.lst ((es.map (·.1)).map eP))) (some (.lst (ls.map eP))) gr nr) M =
      some (.nx (LS S mm nn (some (.int j)) (some (matD m n es)) pat (some (.lst ((es.map (·.1)).map eP))) (some (.lst ((ls ++ row n (Psh m (es.map (·.1))) j).map eP))) gr nr), M) := by
  have hr := rngD2_nat (m := j + 1) (n := n) (by omega) (by omega)
  rw [show ((j + 1 : Nat) : Int) = (j : Int) + 1 by omega] at hr
  have hrm := rngD1_nat (n := m) (by omega)
  have hrl := row_len (n := n) (j := j) (P := Psh m (es.map (·.1)))
  generalize es.map (·.1) = ps at *
  have ha : addD (.lst (ls.map eP)) (.lst ((row n (Psh m ps) j).map eP)) = .ret (.lst ((ls ++ row n (Psh m ps) j).map eP)) := by
    rw [add_lst (small_len (by simp; omega))]
    simp
  unfold l1_law LS matD
  simp [hr]
  rw [comp_if2 (g := fun c : Nat => D.int c) (p := Psh m ps j) (f := fun c => (j, c)) (u := eP)]
  · rw [show List.map eP (List.map (fun c => (j, c)) (List.filter (Psh m ps j) (List.range' (j + 1) (n - (j + 1))))) = (row n (Psh m ps) j).map eP from rfl, cmp_lst (by rw [List.length_map]; omega)]
    simp [ha]
  · intro c hc
    have e1 : ∀ k j : Nat, inAll (.tup [.int k, .int j]) (.lst (ps.map eP)) = .ret (.bl (decide ((k, j) ∈ ps))) := fun k j => in_eP (k, j) ps
    simp [turn1, wipeR, hrm]
    rw [comp_if (g := fun k : Nat => D.int k) (p := fun k => decide ((k, j) ∈ ps) && decide ((k, c) ∈ ps)) (f := eN)]
    · rw [cmp_lst (by
        rw [List.length_map]
        have := List.length_filter_le (fun k => decide ((k, j) ∈ ps) && decide ((k, c) ∈ ps)) (List.range m)
        simp at this
        omega)]
      simp only [bnd_r]
      rw [ne_nil_eN]
      have e2 : (!((List.range m).filter fun k => decide ((k, j) ∈ ps) && decide ((k, c) ∈ ps)).isEmpty) = Psh m ps j c := rfl
      rw [e2]
      cases Psh m ps j c <;> simp [one', eP]
    · intro k hk
      by_cases h1 : (k, j) ∈ ps
      · by_cases h2 : (k, c) ∈ ps
        · simp [turn1, one', e1, h1, h2, eN]
        · simp [turn1, one', e1, h1, h2, eN]
      · simp [turn1, one', e1, h1, eN]
def Pin (ps : List (Nat × Nat)) (j c : Nat) : Bool := decide ((j, c) ∈ ps) || decide ((c, j) ∈ ps)
theorem l3_law_run {S mm mat pat gr nr : Option D} {M : Mem} {n j : Nat} {ps ls : List (Nat × Nat)} (hn : n ≤ 6) (hj : j < n) (hls : ls.length ≤ 36) :
    l3_law (LS S mm (some (.int n)) (some (.int j)) mat pat (some (.lst (ps.map eP))) (some (.lst (ls.map eP))) gr nr) M =
      some (.nx (LS S mm (some (.int n)) (some (.int j)) mat pat (some (.lst (ps.map eP))) (some (.lst ((ls ++ row n (Pin ps) j).map eP))) gr nr), M) := by
  have hr := rngD2_nat (m := j + 1) (n := n) (by omega) (by omega)
  rw [show ((j + 1 : Nat) : Int) = (j : Int) + 1 by omega] at hr
  have hrl := row_len (n := n) (j := j) (P := Pin ps)
  have ha : addD (.lst (ls.map eP)) (.lst ((row n (Pin ps) j).map eP)) = .ret (.lst ((ls ++ row n (Pin ps) j).map eP)) := by
    rw [add_lst (small_len (by simp; omega))]
    simp
  unfold l3_law LS
  simp [hr]
  rw [comp_if2 (g := fun c : Nat => D.int c) (p := Pin ps j) (f := fun c => (j, c)) (u := eP)]
  · rw [show List.map eP (List.map (fun c => (j, c)) (List.filter (Pin ps j) (List.range' (j + 1) (n - (j + 1))))) = (row n (Pin ps) j).map eP from rfl, cmp_lst (by rw [List.length_map]; omega)]
    simp [ha]
  · intro c hc
    have e1 : ∀ k j : Nat, inAll (.tup [.int k, .int j]) (.lst (ps.map eP)) = .ret (.bl (decide ((k, j) ∈ ps))) := fun k j => in_eP (k, j) ps
    unfold Pin
    by_cases h1 : (j, c) ∈ ps
    · simp [turn1, wipeR, e1, h1, one', eP]
    · by_cases h2 : (c, j) ∈ ps
      · simp [turn1, wipeR, e1, h1, h2, one', eP]
      · simp [turn1, wipeR, e1, h1, h2, one', eP]
end K05
namespace K05
open DL
theorem listA_adj (l : UL) : listA false (adjD l) = .ret (.lst ((l.map (·.1)).map eN)) := by
  funext M
  unfold listA seqK adjD
  simp only [res]
  have e : (kvs kI tD l).map (·.1) = (l.map (·.1)).map eN := by
    unfold kvs
    rw [List.map_map, List.map_map]
    rfl
  rw [e]
  rfl
theorem sorted_eN (x : List Nat) : sortedD false (.lst (x.map eN)) = .ret (.lst ((sortN x).map eN)) := funext fun M => sortedD_eN rfl
def lL (l : List Nat) : D := .lst (l.map eN)
theorem lL_list_ok (L : List (List Nat)) : okD (.lst (L.map lL)) := by
  constructor
  · have := pl_map (f := lL) (fun a => (lst_eN_ok a).1) L
    simpa [pl] using this
  · have h1 : ∀ a : List Nat, dpt (lL a) ≤ 1 := by
      intro a
      have := dpt_map (f := eN) (k := 0) (fun a => Nat.le_refl _) a
      unfold lL
      rw [dpt]; omega
    have := dpt_map (f := lL) (k := 1) h1 L
    rw [dpt]; omega
theorem ne_self {a : D} (h : okD a) : neD a a = .ret (.bl false) := by
  rw [neD_pl h h]; simp
/-- whom the lines join -/
def nbs (n : Nat) (ls : List (Nat × Nat)) (j : Nat) : List Nat := (List.range n).filter fun c => decide ((min j c, max j c) ∈ ls)
theorem near_eq {n : Nat} {ls : List (Nat × Nat)} {tbs : List UL} (hr : ∀ a ∈ ls, a.1 < a.2 ∧ a.2 < n) (hl : tbs.length = n)
    (h : ∀ q (hq : q < tbs.length), (tbs[q].map (·.1)).Nodup ∧ ∀ c, c ∈ tbs[q].map (·.1) ↔ (q, c) ∈ ls ∨ (c, q) ∈ ls) :
    (tbs.map fun l => sortN (l.map (·.1))) = (List.range n).map (nbs n ls) := by
  apply List.ext_getElem
  · simp [hl]
  · intro i h1 h2
    simp only [List.length_map] at h1
    rw [List.getElem_map, List.getElem_map, List.getElem_range]
    obtain ⟨nd, hm⟩ := h i h1
    refine eq_of_pw (lt := fun a b : Nat => a < b) (fun a => Nat.lt_irrefl a) (fun a b c => Nat.lt_trans) (sortN_lt nd) ?_ ?_
    · unfold nbs
      exact pw_filter List.pairwise_lt_range
    · intro c
      rw [sortN_mem, hm]
      unfold nbs
      rw [List.mem_filter, List.mem_range, decide_eq_true_eq]
      constructor
      · rintro (q | q)
        · have := hr _ q
          simp only at this
          rw [show min i c = i by omega, show max i c = c by omega]
          exact ⟨this.2, q⟩
        · have := hr _ q
          simp only at this
          rw [show min i c = c by omega, show max i c = i by omega]
          exact ⟨by omega, q⟩
      · rintro ⟨h3, q⟩
        by_cases z : i < c
        · rw [show min i c = i by omega, show max i c = c by omega] at q
          exact .inl q
        · rw [show min i c = c by omega, show max i c = i by omega] at q
          exact .inr q
theorem tI_eP (l : List (Nat × Nat)) : tIL (l.map eP) = true := by
  rw [tIL_all]
  intro d hd
  obtain ⟨a, _, rfl⟩ := List.mem_map.mp hd
  rfl
theorem dpt_eP (l : List (Nat × Nat)) : dptL (l.map eP) ≤ 1 := dpt_map (f := eP) (k := 1) (fun a => Nat.le_refl _) l
theorem alike_pat {m n : Nat} {ps : List (Nat × Nat)} (h : ps.length ≤ 900) : m__law_alike 9 [patD m n ps, patD m n ps] = .ret (.bl true) := by
  refine alike_run 9 _ ?_ ?_
  · simp [patD, tI, tIL, tI_eP, h]
  · have := dpt_eP ps
    simp only [patD, dpt, dptL]
    omega
theorem alike_gr {n : Nat} {ps : List (Nat × Nat)} (h : ps.length ≤ 900) : m__law_alike 9 [grD n ps, grD n ps] = .ret (.bl true) := by
  refine alike_run 9 _ ?_ ?_
  · simp [grD, tI, tIL, tI_eP, h]
  · have := dpt_eP ps
    simp only [grD, dpt, dptL]
    omega
theorem comp_one2 {α β γ : Type} {g : α → D} {turn : D → Mo (List γ)} {f : α → β} {u : β → γ} {l : List α} (h : ∀ a ∈ l, turn (g a) = .ret [u (f a)]) : compL none turn (l.map g) = .ret ((l.map f).map u) := by
  rw [comp_one (f := fun a => u (f a)) h, List.map_map]; rfl
theorem l2_law_run {S mm nn j pat pl li gr nr : Option D} {M : Mem} {m n : Nat} {es : List Ent} (hm : m ≤ 6) (hn : n ≤ 6) (g : Good m n es) :
    ∃ (j' li' gr' nr' : Option D), l2_law (LS S mm nn j (some (matD m n es)) pat pl li gr nr) M =
      some (.nx (LS S mm nn j' (some (matD m n es)) (some (patD m n (es.map (·.1)))) (some (.lst ((es.map (·.1)).map eP))) li' gr' nr'), M) := by
  have hmn : m * n ≤ 36 := Nat.mul_le_mul hm hn
  have hle := g.len
  obtain ⟨ps, hps⟩ : ∃ ps, es.map (·.1) = ps := ⟨_, rfl⟩
  have hpl : ps.length ≤ 36 := by rw [← hps, List.length_map]; omega
  have hpr : ∀ a ∈ ps, a.1 < m ∧ a.2 < n := by
    intro a ha
    rw [← hps] at ha
    obtain ⟨e, he, rfl⟩ := List.mem_map.mp ha
    exact g.inr e he
  have hpp : ps.Pairwise ltP := by
    rw [← hps, List.pairwise_map]; exact g.pw
  -- the lines of the words
  obtain ⟨ρ1, M1, e1, j1, rfl, hM⟩ := forL_ind (h := fun d ρ => .ret (ρ.set 2 (some d))) (body := l1_law)
    (fun i ρ M' => ∃ j : Option D, ρ = LS S mm nn j (some (matD m n es)) (some (patD m n ps)) (some (.lst (ps.map eP))) (some (.lst ((lns n (Psh m ps) i).map eP))) gr nr ∧ M' = M)
    ((List.range n).map fun k => .int (k : Nat)) 0 (LS S mm nn j (some (matD m n es)) (some (patD m n ps)) (some (.lst (ps.map eP))) (some (.lst [])) gr nr) M ⟨j, rfl, rfl⟩ (by
      intro i dd ρ M' hi ⟨j, e1, e2⟩
      subst e1 e2
      rw [Nat.zero_add]
      obtain ⟨hi', hd⟩ := List.getElem?_eq_some_iff.mp hi
      rw [List.length_map, List.length_range] at hi'
      simp at hd
      subst hd
      have z := l1_law_run (S := S) (mm := mm) (nn := nn) (pat := some (patD m n ps)) (gr := gr) (nr := nr) (M := M') (m := m) (n := n) (j := i) (es := es) (ls := lns n (Psh m ps) i) hm hn hi' (lns_len (by omega) hn)
      rw [hps, ← lns_succ] at z
      exact ⟨_, _, rfl, _, _, .inl z, _, rfl, rfl⟩)
  rw [show 0 + (List.map (fun k => D.int (k : Nat)) (List.range n)).length = n by simp, hM] at e1
  obtain ⟨ls, eg, lp, lm⟩ := column_graph_run (m := m) (n := n) (ps := ps) (M := M) (by omega) (by omega) fun a ha => (hpr a ha).2
  have hll : lns n (Psh m ps) n = ls := by
    refine eq_of_pw (lt := ltP) (fun a h => ltP.irr h) (fun a b c h1 h2 => h1.trans h2) (lns_pw _ _ _) lp ?_
    rintro ⟨a, b⟩
    rw [lns_mem, lm, Psh_iff]
    constructor
    · rintro ⟨_, h2, _, k, _, h4, h5⟩
      exact ⟨h2, k, h4, h5⟩
    · rintro ⟨h2, k, h4, h5⟩
      have q1 := hpr _ h4
      have q2 := hpr _ h5
      exact ⟨q1.2, h2, q2.2, k, q1.1, h4, h5⟩
  have hlr : ∀ a ∈ ls, a.1 < a.2 ∧ a.2 < n := by
    intro a ha
    rw [← hll, lns_mem] at ha
    exact ⟨ha.2.1, ha.2.2.1⟩
  have hlen : ls.length ≤ 36 := by rw [← hll]; exact lns_len hn hn
  obtain ⟨tbs, en, tl, th⟩ := neighbours_run (n := n) (es := ls) (M := M) (by omega) (by omega) hlr
  have hne := near_eq hlr tl th
  refine ⟨j1, some (.lst (ls.map eP)), some (grD n ls), some (.lst (tbs.map adjD)), ?_⟩
  rw [hll] at e1
  unfold l2_law
  have pe := pattern_of_run (m := m) (n := n) (es := es) (by omega)
  rw [hps] at pe ⊢
  refine (run_seq (ρ1 := LS S mm nn j (some (matD m n es)) (some (patD m n ps)) pl li gr nr) (M1 := M) ?_).trans ?_
  · simp [LS, pe]
  refine (run_seq (ρ1 := LS S mm nn j (some (matD m n es)) (some (patD m n ps)) (some (.lst (ps.map eP))) li gr nr) (M1 := M) ?_).trans ?_
  · simp [LS]
    have e2 : subD' (matD m n es) (.int 2) = .ret (.tup (es.map entD)) := by unfold matD; simp
    simp [e2]
    rw [comp_one2 (g := entD) (f := (·.1)) (u := eP)]
    · rw [hps, cmp_lst (by rw [List.length_map]; omega)]
      simp
    · intro e he
      simp [turn1, wipeR, entD, one', eP]
  refine (run_seq (ρ1 := LS S mm nn j (some (matD m n es)) (some (patD m n ps)) (some (.lst (ps.map eP))) li gr nr) (M1 := M) ?_).trans ?_
  · have e2 : subD' (matD m n es) (.int 0) = .ret (.int m) := by unfold matD; simp
    have e3 : subD' (matD m n es) (.int 1) = .ret (.int n) := by unfold matD; simp
    have e4 : m__law_alike 9 [patD m n ps, .tup [.int m, .int n, .tup (ps.map eP)]] = .ret (.bl true) := alike_pat (by omega)
    have e5 := is_pattern_run (m := m) (n := n) (ps := ps) (by omega) (by omega) hpp (by omega) hpr
    simp [LS, e2, e3, e4, e5]
  refine (run_seq (ρ1 := LS S mm nn j (some (matD m n es)) (some (patD m n ps)) (some (.lst (ps.map eP))) (some (.lst [])) gr nr) (M1 := M) ?_).trans ?_
  · simp [LS]
  refine (run_seq (ρ1 := LS S mm nn j1 (some (matD m n es)) (some (patD m n ps)) (some (.lst (ps.map eP))) (some (.lst (ls.map eP))) gr nr) (M1 := M) ?_).trans ?_
  · have e3 : subD' (matD m n es) (.int 1) = .ret (.int n) := by unfold matD; simp
    have hrn := rngD1_nat (n := n) (by omega)
    simp only [for_app]
    rw [← e1]
    simp [LS, e3, hrn]
  refine (run_seq (ρ1 := LS S mm nn j1 (some (matD m n es)) (some (patD m n ps)) (some (.lst (ps.map eP))) (some (.lst (ls.map eP))) (some (grD n ls)) nr) (M1 := M) ?_).trans ?_
  · simp [LS, sE, Mo.bnd, Mo.ret, eg]
  refine (run_seq (ρ1 := LS S mm nn j1 (some (matD m n es)) (some (patD m n ps)) (some (.lst (ps.map eP))) (some (.lst (ls.map eP))) (some (grD n ls)) nr) (M1 := M) ?_).trans ?_
  · have e3 : subD' (matD m n es) (.int 1) = .ret (.int n) := by unfold matD; simp
    have e4 : m__law_alike 9 [grD n ls, .tup [.int n, .tup (ls.map eP)]] = .ret (.bl true) := alike_gr (by omega)
    have e5 := is_graph_run (n := n) (ps := ls) (by omega) lp (by omega) hlr
    simp [LS, e3, e4, e5]
  refine (run_seq (ρ1 := LS S mm nn j1 (some (matD m n es)) (some (patD m n ps)) (some (.lst (ps.map eP))) (some (.lst (ls.map eP))) (some (grD n ls)) (some (.lst (tbs.map adjD)))) (M1 := M) ?_).trans ?_
  · simp [LS, sE, Mo.bnd, Mo.ret, en]
  have e3 : subD' (matD m n es) (.int 1) = .ret (.int n) := by unfold matD; simp
  have hrn := rngD1_nat (n := n) (by omega)
  simp [LS, e3, hrn]
  rw [comp_one2 (g := adjD) (f := fun l => sortN (l.map (·.1))) (u := lL), cmp_lst (by simp; omega)]
  · rw [comp_one2 (g := fun k : Nat => D.int k) (f := nbs n ls) (u := lL), cmp_lst (by simp; omega)]
    · rw [hne]
      simp [ne_self (lL_list_ok _), -List.map_map]
    · intro c hc
      simp [turn1, wipeR, one', e3, hrn]
      rw [comp_if (g := fun k : Nat => D.int k) (p := fun k => decide ((min c k, max c k) ∈ ls)) (f := eN)]
      · rw [cmp_lst (by
          rw [List.length_map]
          have := List.length_filter_le (fun k => decide ((min c k, max c k) ∈ ls)) (List.range n)
          simp at this
          omega)]
        rfl
      · intro k hk
        have e6 : ∀ k j : Nat, inAll (.tup [.int k, .int j]) (.lst (ls.map eP)) = .ret (.bl (decide ((k, j) ∈ ls))) := fun k j => in_eP (k, j) ls
        by_cases q : (min c k, max c k) ∈ ls
        · simp [turn1, wipeR, min_c, max_c, e6, q, eN, one']
        · simp [turn1, wipeR, min_c, max_c, e6, q, eN, one']
  · intro l hl
    simp [turn1, wipeR, one', listA_adj, sorted_eN, lL, -List.map_map]
end K05
namespace K05
open DL
theorem lst_ok13 (ds : List D) (h : ds.length ≤ 13) : lstD ds = .ret (.lst ds) := lst_ok (small_len (by omega))
def LF (S m n j mat pat pl li gr nr both odd : Option D) : En := [S, none, j, none, none, none, some (.ref 1), m, n, mat, pat, pl, li, gr, nr, both, odd]
theorem dM2_nr (L0 xs : List Int) : NR (dM2 L0 xs) := by
  intro o ho
  simp only [dM2, List.mem_cons, List.not_mem_nil, or_false] at ho
  rcases ho with rfl | rfl
  · exact norefL_ints _
  · exact norefL_ints _
theorem tk2 (L0 xs : List Int) : ∃ (v : Nat) (ys : List Int), m__law_take [.ref 1, .int 6] (dM2 L0 xs) = some (.ok (.int v), dM2 L0 ys) ∧ v < 6 := by
  obtain ⟨v, ys, e, h1, h2⟩ := take_run (n := 1) (M := dM2 L0 xs) (xs := xs) (b := 6) rfl (by decide) (dM2_nr L0 xs)
  obtain ⟨k, rfl⟩ : ∃ k : Nat, v = k := ⟨v.toNat, by omega⟩
  exact ⟨k, ys, e, by omega⟩
theorem law_run (ns : List Int) (h : ns.length ≤ 63) : ∃ M', m_law [.lst (ns.map .int)] [] = some (.ok (.bl true), M') := by
  refine ⟨[], ?_⟩
  suffices hg : ∃ M', g_law (startE N_law [.lst (ns.map .int)]) [] = some (.ret (.bl true), M') by
    obtain ⟨M', hg⟩ := hg
    unfold m_law fnD
    rw [hg]
    exact fnR_ret rfl (by simp)
  obtain ⟨xs, L0, e1⟩ := draws_run ns h
  have e1 : m__law_draws [.lst (ns.map .int)] [] = some (.ok (.ref 1), dM2 L0 xs) := e1
  obtain ⟨v1, x1, t1, b1⟩ := tk2 L0 xs
  obtain ⟨v2, x2, t2, b2⟩ := tk2 L0 x1
  obtain ⟨m, hm⟩ : ∃ m, v1 + 1 = m := ⟨_, rfl⟩
  obtain ⟨n, hn⟩ : ∃ n, v2 + 1 = n := ⟨_, rfl⟩
  have hm6 : m ≤ 6 := by omega
  have hn6 : n ≤ 6 := by omega
  have im : (1 : Int) + v1 = m := by omega
  have in' : (1 : Int) + v2 = n := by omega
  obtain ⟨es1, rt1, x3, s1, g1, _⟩ := system_run (m := m) (n := n) (L0 := L0) (xs := x2) (many := 35) hm6 hn6
  obtain ⟨es, rt2, x4, s2, g2, _⟩ := system_run (m := n) (n := n) (L0 := L0) (xs := x3) (many := 30) hn6 hn6
  obtain ⟨j1, li1, gr1, nr1, w1⟩ := l2_law_run (S := some (.lst (ns.map .int))) (mm := some (.int m)) (nn := some (.int n)) (j := none) (pat := none) (pl := none) (li := none) (gr := none) (nr := none) (M := dM2 L0 x4) hm6 hn6 g1
  obtain ⟨j2, li2, gr2, nr2, w2⟩ := l2_law_run (S := some (.lst (ns.map .int))) (mm := some (.int m)) (nn := some (.int n)) (j := j1) (pat := some (patD m n (es1.map (·.1)))) (pl := some (.lst ((es1.map (·.1)).map eP))) (li := li1) (gr := gr1) (nr := nr1) (M := dM2 L0 x4) hn6 hn6 g2
  have hnn : n * n ≤ 36 := Nat.mul_le_mul hn6 hn6
  have hle := g2.len
  obtain ⟨ps, hps⟩ : ∃ ps, es.map (·.1) = ps := ⟨_, rfl⟩
  rw [hps] at w2
  have hpl : ps.length ≤ 36 := by rw [← hps, List.length_map]; omega
  have hpr : ∀ a ∈ ps, a.1 < n ∧ a.2 < n := by
    intro a ha
    rw [← hps] at ha
    obtain ⟨e, he, rfl⟩ := List.mem_map.mp ha
    exact g2.inr e he
  -- the lines of the words, of the square one
  obtain ⟨ρ5, M5, e5, j5, rfl, hM5⟩ := forL_ind (h := fun d ρ => .ret (ρ.set 2 (some d))) (body := l3_law)
    (fun i ρ M' => ∃ j : Option D, ρ = LS (some (.lst (ns.map .int))) (some (.int m)) (some (.int n)) j (some (matD n n es)) (some (patD n n ps)) (some (.lst (ps.map eP))) (some (.lst ((lns n (Pin ps) i).map eP))) gr2 nr2 ∧ M' = dM2 L0 x4)
    ((List.range n).map fun k => .int (k : Nat)) 0 (LS (some (.lst (ns.map .int))) (some (.int m)) (some (.int n)) j2 (some (matD n n es)) (some (patD n n ps)) (some (.lst (ps.map eP))) (some (.lst [])) gr2 nr2) (dM2 L0 x4) ⟨j2, rfl, rfl⟩ (by
      intro i dd ρ M' hi ⟨j, e1, e2⟩
      subst e1 e2
      rw [Nat.zero_add]
      obtain ⟨hi', hd⟩ := List.getElem?_eq_some_iff.mp hi
      rw [List.length_map, List.length_range] at hi'
      simp at hd
      subst hd
      have z := l3_law_run (S := some (.lst (ns.map .int))) (mm := some (.int m)) (mat := some (matD n n es)) (pat := some (patD n n ps)) (gr := gr2) (nr := nr2) (M := dM2 L0 x4) (n := n) (j := i) (ps := ps) (ls := lns n (Pin ps) i) hn6 hi' (lns_len (by omega) hn6)
      rw [← lns_succ] at z
      exact ⟨_, _, rfl, _, _, .inl z, _, rfl, rfl⟩)
  rw [show 0 + (List.map (fun k => D.int (k : Nat)) (List.range n)).length = n by simp, hM5] at e5
  have hgl : lns n (Pin ps) n = gof ps := by
    refine eq_of_pw (lt := ltP) (fun a h => ltP.irr h) (fun a b c h1 h2 => h1.trans h2) (lns_pw _ _ _) gof_lt ?_
    rintro ⟨a, b⟩
    rw [lns_mem, gof_mem]
    unfold Pin
    simp only [Bool.or_eq_true, decide_eq_true_eq]
    constructor
    · rintro ⟨_, h2, _, h4⟩
      exact ⟨h2, h4⟩
    · rintro ⟨h2, h4⟩
      have : a < n ∧ b < n := by
        rcases h4 with h4 | h4
        · exact ⟨(hpr _ h4).1, (hpr _ h4).2⟩
        · exact ⟨(hpr _ h4).2, (hpr _ h4).1⟩
      exact ⟨this.1, h2, this.2, h4⟩
  rw [hgl] at e5
  have hgn : (gof ps).length ≤ 36 := by rw [← hgl]; exact lns_len hn6 hn6
  have tr := transposed_run (m := n) (n := n) (es := es) g2.nodup (by omega)
  obtain ⟨tb, ad, nd, ht⟩ := added_run (n := n) (es := es) (os := fromF (es.map sw)) (M := dM2 L0 x4) g2 g2.sw hn6
  have hF : (fromF tb).length ≤ 900 := by
    have z : ∀ k ∈ tb.map (·.1), k.1 < n ∧ k.2 < n := by
      intro k hk
      rw [aGet_key] at hk
      obtain ⟨v, hv⟩ := hk
      rw [ht] at hv
      unfold addT at hv
      rw [g2.sw_get] at hv
      cases e : aGet es (k.2, k.1) with
      | some w =>
        have := g2.inr _ ((aGet_mem g2.nodup).mp e)
        exact ⟨this.2, this.1⟩
      | none =>
        rw [e] at hv
        exact g2.inr _ ((aGet_mem g2.nodup).mp hv)
    have z2 := len_pairs nd z
    rw [List.length_map] at z2
    have := from_len (tb := tb)
    omega
  have fnd : ((fromF tb).map (·.1)).Nodup := by
    unfold List.Nodup
    rw [List.pairwise_map]
    refine (from_pw nd).imp fun {a b} h (e : a.1 = b.1) => ?_
    rw [e] at h
    exact ltP.irr h
  have sy1 := is_sym_run (m := n) (n := n) (es := es) g2.nodup (by omega)
  have sy2 := is_sym_run (m := n) (n := n) (es := fromF tb) fnd hF
  rw [both_sym g2 nd ht, decide_eq_true (rfl : n = n)] at sy2
  have sy3 := is_sym_run (m := n) (n := m) (es := []) (by simp) (by simp)
  have eqt := eq_mat n n (fromF (es.map sw)) es
  unfold g_law
  have a1 : (fun ρ => sE (.bnd (.bnd (getV ρ 0) fun d => .bnd (.ret []) fun ds => .ret (d :: ds)) (m__law_draws)) ρ fun d M => some (Fl.nx (ρ.set 6 (some d)), M)) (startE N_law [.lst (ns.map .int)]) [] = some (.nx (LS (some (.lst (ns.map .int))) none none none none none none none none none), dM2 L0 xs) := by
    unfold N_law LS
    simp [startE, sE, Mo.bnd, Mo.ret, e1]
  rw [run_seq a1]
  refine ⟨dM2 L0 x4, ?_⟩
  refine (run_seq (ρ1 := LS (some (.lst (ns.map .int))) (some (.int m)) (some (.int n)) none none none none none none none) (M1 := dM2 L0 x2) ?_).trans ?_
  · simp [LS, sE, Mo.bnd, Mo.ret, t1, t2, par2, im, in']
  refine (run_seq (ρ1 := LS (some (.lst (ns.map .int))) (some (.int m)) (some (.int n)) j2 (some (matD n n es)) (some (patD n n ps)) (some (.lst (ps.map eP))) li2 gr2 nr2) (M1 := dM2 L0 x4) ?_).trans ?_
  · unfold LS at w1 w2
    simp [LS, sE, Mo.bnd, Mo.ret, s1, s2, forL_cons, w1, w2, -List.map_map]
  refine (run_seq (ρ1 := LS (some (.lst (ns.map .int))) (some (.int m)) (some (.int n)) j2 (some (matD n n es)) (some (patD n n ps)) (some (.lst (ps.map eP))) (some (.lst [])) gr2 nr2) (M1 := dM2 L0 x4) ?_).trans ?_
  · simp [LS]
  refine (run_seq (ρ1 := LS (some (.lst (ns.map .int))) (some (.int m)) (some (.int n)) j5 (some (matD n n es)) (some (patD n n ps)) (some (.lst (ps.map eP))) (some (.lst ((gof ps).map eP))) gr2 nr2) (M1 := dM2 L0 x4) ?_).trans ?_
  · have hrn := rngD1_nat (n := n) (by omega)
    simp only [for_app]
    rw [← e5]
    simp [LS, hrn]
  refine (run_seq (ρ1 := LF (some (.lst (ns.map .int))) (some (.int m)) (some (.int n)) j5 (some (matD n n es)) (some (patD n n ps)) (some (.lst (ps.map eP))) (some (.lst ((gof ps).map eP))) gr2 nr2 (some (matD n n (fromF tb))) none) (M1 := dM2 L0 x4) ?_).trans ?_
  · simp [LS, LF, tr, sE, Mo.bnd, Mo.ret, ad]
  refine (run_seq (ρ1 := LF (some (.lst (ns.map .int))) (some (.int m)) (some (.int n)) j5 (some (matD n n es)) (some (patD n n ps)) (some (.lst (ps.map eP))) (some (.lst ((gof ps).map eP))) gr2 nr2 (some (matD n n (fromF tb))) none) (M1 := dM2 L0 x4) ?_).trans ?_
  · have gr := graph_of_run (n := n) (ps := ps) (by omega) hpr
    have e4 : m__law_alike 9 [grD n (gof ps), .tup [.int n, .tup ((gof ps).map eP)]] = .ret (.bl true) := alike_gr (by omega)
    have hq : (decide (n = n) && es.all fun e => decide (aGet es (e.1.2, e.1.1) = some e.2)) = decide (fromF (es.map sw) = es) := by
      rw [Bool.eq_iff_iff, decide_eq_true_iff, ← sym_iff g2]
      simp
    rw [hq] at sy1
    simp [LF, gr, e4, sy1, tr, eqt, says_bl, sy2]
  refine (run_seq (ρ1 := LF (some (.lst (ns.map .int))) (some (.int m)) (some (.int n)) j5 (some (matD n n es)) (some (patD n n ps)) (some (.lst (ps.map eP))) (some (.lst ((gof ps).map eP))) gr2 nr2 (some (matD n n (fromF tb))) none) (M1 := dM2 L0 x4) ?_).trans ?_
  · by_cases q : m = n
    · subst q
      simp [LF]
    · have q' : ¬ (m : Int) = n := by omega
      have sy3 : m_is_symmetric [.tup [.int m, .int n, .tup []]] = .ret (.bl false) := by
        have z := is_sym_run (m := m) (n := n) (es := []) (by simp) (by simp)
        simpa [matD, q] using z
      simp [LF, q, q', sy3]
  refine (run_seq (ρ1 := LF (some (.lst (ns.map .int))) (some (.int m)) (some (.int n)) j5 (some (matD n n es)) (some (patD n n ps)) (some (.lst (ps.map eP))) (some (.lst ((gof ps).map eP))) gr2 nr2 (some (matD n n (fromF tb))) (some (.lst oddP))) (M1 := dM2 L0 x4) ?_).trans ?_
  · simp [LF, lst_ok13, oddP]
  refine (run_seq (ρ1 := LF (some (.lst (ns.map .int))) (some (.int m)) (some (.int n)) j5 (some (matD n n es)) (some (patD n n ps)) (some (.lst (ps.map eP))) (some (.lst ((gof ps).map eP))) gr2 nr2 (some (matD n n (fromF tb))) (some (.lst oddP))) (M1 := dM2 L0 x4) ?_).trans ?_
  · have z : m_is_pattern [.tup [.int 0, .int 0, .tup []]] = .ret (.bl true) := is_pattern_run (m := 0) (n := 0) (ps := []) (by omega) (by omega) (by simp) (by simp) (by simp)
    simp [LF]
    rw [show oddP = oddP.map id by simp, comp_if (g := id) (p := fun _ => false) (f := id)]
    · rw [filter_none, List.map_nil, cmp_lst (by simp)]
      simp [ne_nil, z]
    · intro d hd
      have := oddP_run d hd
      simp [turn1, wipeR, this, says_bl]
  refine (run_seq (ρ1 := LF (some (.lst (ns.map .int))) (some (.int m)) (some (.int n)) j5 (some (matD n n es)) (some (patD n n ps)) (some (.lst (ps.map eP))) (some (.lst ((gof ps).map eP))) gr2 nr2 (some (matD n n (fromF tb))) (some (.lst oddG))) (M1 := dM2 L0 x4) ?_).trans ?_
  · simp [LF, lst_ok13, oddG]
  have z : m_is_graph [.tup [.int 2, .tup [.tup [.int 0, .int 1]]]] = .ret (.bl true) := is_graph_run (n := 2) (ps := [(0, 1)]) (by omega) (by simp) (by simp) (by simp)
  simp [LF]
  rw [show oddG = oddG.map id by simp, comp_if (g := id) (p := fun _ => false) (f := id)]
  · rw [filter_none, List.map_nil, cmp_lst (by simp)]
    simp [eq_nil, z]
  · intro d hd
    have := oddG_run d hd
    simp [turn1, wipeR, this, says_bl]
end K05
theorem PySem.Challenge.cw_factorsagree_k05_whole_patterns_and_grap_holds : PySem.Challenge.rw_factorsagree_k05_whole_patterns_and_grap.Holds := by
  exact K05.holds_of fun ns h _ => K05.law_run ns h
