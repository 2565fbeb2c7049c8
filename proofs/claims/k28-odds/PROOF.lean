import PyProof.Rows.All
import HandS.ForMost
import HandS.Lambda
import KE.KDictKeyed
import KE.SortData
import KE.LtData
import HandS.TupSets
import HandS.Wide
import HandS.TupAny
import HandS.Deep
import HandS.IsInst
import KE.GoesDict
import KE.KDictSum
import HandS.Conv
import KE.KDictCopyH
import HandS.Zip
import KE.GoesEnum
import HandS.DictComp
import KE.KEqNest
import PyProof.NeKinds
import KE.DataEq
import HandS.OwnEq
import HandS.WordsExc
import HandS.Defaults
import HandS.Nested
import HandS.ExcInit
import HandS.ExcField
import HandS.ExcIs
import HandS.ExcOwn
import KE.KExcIs
import HandS.Head0
import HandS.Head1
import HandS.Head2
import HandS.HeadEnd
import HandS.HeadHook1
import HandS.HeadHook2
import HandS.HeadHook3
import HandS.HeadHook4
import HandS.HeadWalk
import KE.KStateDown
import PySem.Challenge.RW_calmblanks_k28_whole_odds_along_columns
set_option Elab.async false
set_option linter.all false
set_option maxRecDepth 100000
set_option maxHeartbeats 4000000
/-! The data level: D, FD, the state relation DS, what a reading computes. -/
namespace Dl
open PySem PySem.Spec PyProof.Rows L2
/-- data, no addresses (but the hand's, a class's) -/
inductive D where
  | non | bl (b : Bool) | int (i : Int) | str (x : Str) | ty (n : String) | cls (a : Addr) | hand (a : Addr)
  | tup (ds : List D) | lst (ds : List D) | dic (z : Bool) (kvs : List (D × D)) | obj (sz sh : D) | lam (f cc : Addr) (x : V) (sz : D) | setD (ds : List D) | pin (o : HO) | ptup (ds : List D)
def tupI (xs : List Int) : D := .tup (xs.map .int)
/-! ### keys -/
mutual
def toKey : D → NestedKey
  | .int i => .num i
  | .str x => .text x
  | .tup ds => .tup (toKeys ds)
  | _ => .none
def toKeys : List D → List NestedKey
  | [] => []
  | d :: ds => toKey d :: toKeys ds
end
/-- ints, tuples of such, to depth n -/
def kOk : Nat → D → Bool
  | 0, .int _ => true
  | n + 1, .int _ => true
  | n + 1, .tup ds => ds.all (kOk n)
  | _, _ => false
structure Cf where
  P : Program
  w : World
  K : PySem.W.Frag
  C : Addr
  cNC : Addr
  cNP : Addr
  cNM : Addr
  T : List (Addr × Str)
  lamq : Str
/-- a dict at p: entries by key, the key's address, the value -/
def dN (c : Cf) (p : Addr) (es : List (NestedKey × Addr × V)) : HO := .ext fun h =>
  es.length ≤ sizeLine ∧ (p == sysModules) = false ∧ ∃ xs : List (NestedKey × Addr × Value),
    Paired (fun (x : NestedKey × Addr × V) (y : NestedKey × Addr × Value) => x.1 = y.1 ∧ x.2.1 = y.2.1 ∧ RelV x.2.2 y.2.2) es xs ∧
    ∃ o de ep, h.get? p = some o ∧ o.ExactDict ∧ o.data = .dict de ep ∧ de.toList = xs.map (entryOfKey (nestedKind c.P c.w)) ∧ (xs.map (·.1)).Nodup
/-! ### a value stands for data -/
mutual
inductive FD (c : Cf) (F : Hp) : V → D → Prop
  | non : FD c F .non .non
  | bl (b : Bool) : FD c F (.bl b) (.bl b)
  | int (i : Int) : FD c F (.int i) (.int i)
  | str (x : Str) : FD c F (.str x) (.str x)
  | ty (n : String) : FD c F (.ty n) (.ty n)
  | cls (a : Addr) : FD c F (.ref a) (.cls a)
  | hand (a : Addr) : FD c F (.ref a) (.hand a)
  | tup {a : Addr} {xs : List V} {ds : List D} : SqT c.K F a xs → FDs c F xs ds → FD c F (.ref a) (.tup ds)
  | lst {a : Addr} {xs : List V} {ds : List D} : F a = some (.lst xs) → FDs c F xs ds → FD c F (.ref a) (.lst ds)
  | dicF {a : Addr} {es : List (NestedKey × Addr × V)} {kvs : List (D × D)} : F a = some (dN c a es) → FDk c F es kvs → FD c F (.ref a) (.dic false kvs)
  | dicT {a : Addr} {od : Obj} {es : List (NestedKey × Addr × V)} {kvs : List (D × D)} : F a = some (.frz od (dN c a es)) → FDk c F es kvs → FD c F (.ref a) (.dic true kvs)
  | obj {a dx : Addr} {x y : V} {sz sh : D} : F a = some (.ins c.C dx [(("sizes" : Str), x), (("shares" : Str), y)]) → FD c F x sz → FD c F y sh → FD c F (.ref a) (.obj sz sh)
  | lam {f cc : Addr} {x : V} {sz : D} : F cc = some (LamX.CodeO cc c.lamq) → FD c F x sz → FD c F (.ref f) (.lam f cc x sz)
  | set {a : Addr} {L : List (Addr × List Int)} {ds : List D} : F a = some (L2.SetTO c.P c.w a L) → FDs c F (L.map fun p => V.ref p.1) (L.map fun p => tupI p.2) → (L.map fun p => tupI p.2).Perm ds → FD c F (.ref a) (.setD ds)
  | pin {a : Addr} {o : HO} : F a = some o → FD c F (.ref a) (.pin o)
  | ptup {a : Addr} {od : Obj} {xs : List V} {ds : List D} : F a = some (.frz od (.tup xs)) → od.dict = none → FDs c F xs ds → FD c F (.ref a) (.ptup ds)
inductive FDs (c : Cf) (F : Hp) : List V → List D → Prop
  | nil : FDs c F [] []
  | cons {x : V} {d : D} {xs : List V} {ds : List D} : FD c F x d → FDs c F xs ds → FDs c F (x :: xs) (d :: ds)
inductive FDk (c : Cf) (F : Hp) : List (NestedKey × Addr × V) → List (D × D) → Prop
  | nil : FDk c F [] []
  | cons {nk : NestedKey} {a : Addr} {x : V} {k d : D} {es : List (NestedKey × Addr × V)} {kvs : List (D × D)} : kOk 8 k = true → toKey k = nk → FD c F (.ref a) k → FD c F x d → FDk c F es kvs → FDk c F ((nk, a, x) :: es) ((k, d) :: kvs)
end
def Ex (H H' : Hp) : Prop := ∀ a o, H a = some o → H' a = some o
theorem Ex.refl (H : Hp) : Ex H H := fun _ _ h => h
theorem Ex.trans {H H1 H2 : Hp} (a : Ex H H1) (b : Ex H1 H2) : Ex H H2 := fun x o h => b x o (a x o h)
theorem Ex.new {H : Hp} {p : Addr} {o : HO} (h : H p = none) : Ex H (upd H p o) := fun a u e => by
  rw [upd_ne (ne_of_none e h)]; exact e
theorem Ex.rd {H H' : Hp} {a : Addr} {u : HO} (e : Ex H H') (h : Rd H a u) : Rd H' a u := by
  rcases h with h | ⟨o, h⟩
  · exact .inl (e a _ h)
  · exact .inr ⟨o, e a _ h⟩
theorem Ex.sqT {K : PySem.W.Frag} {H H' : Hp} {a : Addr} {xs : List V} (e : Ex H H') (h : SqT K H a xs) : SqT K H' a xs := by
  rcases h with h | h
  · exact .inl (e.rd h)
  · exact .inr h
theorem Ex.sqL {K : PySem.W.Frag} {H H' : Hp} {a : Addr} {xs : List V} (e : Ex H H') (h : SqL K H a xs) : SqL K H' a xs := by
  rcases h with h | h
  · exact .inl (e.rd h)
  · exact .inr h
theorem Ex.back {H H' : Hp} {p : Addr} (e : Ex H H') (h : H' p = none) : H p = none := by
  cases q : H p with
  | none => rfl
  | some o => rw [e p o q] at h; cases h
mutual
theorem FD.mono {c : Cf} {F F' : Hp} (e : Ex F F') : ∀ {v : V} {d : D}, FD c F v d → FD c F' v d
  | _, _, .non => .non
  | _, _, .bl b => .bl b
  | _, _, .int b => .int b
  | _, _, .str b => .str b
  | _, _, .ty b => .ty b
  | _, _, .cls b => .cls b
  | _, _, .hand b => .hand b
  | _, _, .tup h t => .tup (e.sqT h) (FDs.mono e t)
  | _, _, .lst h t => .lst (e _ _ h) (FDs.mono e t)
  | _, _, .dicF h t => .dicF (e _ _ h) (FDk.mono e t)
  | _, _, .dicT h t => .dicT (e _ _ h) (FDk.mono e t)
  | _, _, .obj h a b => .obj (e _ _ h) (FD.mono e a) (FD.mono e b)
  | _, _, .lam h1 a => .lam (e _ _ h1) (FD.mono e a)
  | _, _, .set h t p => .set (e _ _ h) (FDs.mono e t) p
  | _, _, .pin h => .pin (e _ _ h)
  | _, _, .ptup h k t => .ptup (e _ _ h) k (FDs.mono e t)
theorem FDs.mono {c : Cf} {F F' : Hp} (e : Ex F F') : ∀ {xs : List V} {ds : List D}, FDs c F xs ds → FDs c F' xs ds
  | _, _, .nil => .nil
  | _, _, .cons a t => .cons (FD.mono e a) (FDs.mono e t)
theorem FDk.mono {c : Cf} {F F' : Hp} (e : Ex F F') : ∀ {es : List (NestedKey × Addr × V)} {kvs : List (D × D)}, FDk c F es kvs → FDk c F' es kvs
  | _, _, .nil => .nil
  | _, _, .cons k1 k2 a b t => .cons k1 k2 (FD.mono e a) (FD.mono e b) (FDk.mono e t)
end
theorem FD.dic_inv {c : Cf} {F : Hp} {v : V} {z : Bool} {kvs : List (D × D)} (h : FD c F v (.dic z kvs)) : ∃ p es, v = .ref p ∧ Rd F p (dN c p es) ∧ FDk c F es kvs := by
  cases h with
  | dicF h t => exact ⟨_, _, rfl, .inl h, t⟩
  | dicT h t => exact ⟨_, _, rfl, .inr ⟨_, h⟩, t⟩
/-- a tuple, plain or not -/
def tupOf : D → Option (List D)
  | .tup ds => some ds
  | .ptup ds => some ds
  | _ => none
theorem FD.seqT {c : Cf} {F : Hp} {v : V} {d : D} {ds : List D} (h : FD c F v d) (e : tupOf d = some ds) : ∃ a xs, v = .ref a ∧ SqT c.K F a xs ∧ FDs c F xs ds := by
  cases d <;> simp [tupOf] at e
  · subst e
    cases h with
    | tup h t => exact ⟨_, _, rfl, h, t⟩
  · subst e
    cases h with
    | ptup h k t => exact ⟨_, _, rfl, .inl (.inr ⟨_, h⟩), t⟩
theorem FDs.length {c : Cf} {F : Hp} : ∀ {xs : List V} {ds : List D}, FDs c F xs ds → xs.length = ds.length
  | _, _, .nil => rfl
  | _, _, .cons _ t => by rw [List.length_cons, List.length_cons, t.length]
theorem FDs.get {c : Cf} {F : Hp} : ∀ {xs : List V} {ds : List D} {i : Nat} {d : D}, FDs c F xs ds → ds[i]? = some d → ∃ x, xs[i]? = some x ∧ FD c F x d
  | _, _, _, _, .nil, e => by simp at e
  | _, _, 0, _, .cons a _, e => by simp at e; subst e; exact ⟨_, rfl, a⟩
  | _, _, i + 1, d, .cons _ t, e => by
    obtain ⟨x, h1, h2⟩ := FDs.get (i := i) (d := d) t (by simpa using e)
    exact ⟨x, by simpa using h1, h2⟩
theorem FDs.getV {c : Cf} {F : Hp} : ∀ {xs : List V} {ds : List D} {i : Nat} {x : V}, FDs c F xs ds → xs[i]? = some x → ∃ d, ds[i]? = some d ∧ FD c F x d
  | _, _, _, _, .nil, e => by simp at e
  | _, _, 0, _, .cons a _, e => by simp at e; subst e; exact ⟨_, rfl, a⟩
  | _, _, i + 1, d, .cons _ t, e => by
    obtain ⟨x, h1, h2⟩ := FDs.getV (i := i) (x := d) t (by simpa using e)
    exact ⟨x, by simpa using h1, h2⟩
theorem FDs.append {c : Cf} {F : Hp} : ∀ {xs ys : List V} {ds es : List D}, FDs c F xs ds → FDs c F ys es → FDs c F (xs ++ ys) (ds ++ es)
  | _, _, _, _, .nil, s => s
  | _, _, _, _, .cons r t, s => .cons r (FDs.append t s)
theorem FDs.take {c : Cf} {F : Hp} : ∀ {xs : List V} {ds : List D} (n : Nat), FDs c F xs ds → FDs c F (xs.take n) (ds.take n)
  | _, _, 0, _ => .nil
  | _, _, _ + 1, .nil => .nil
  | _, _, n + 1, .cons r t => .cons r (FDs.take n t)
theorem FDs.drop {c : Cf} {F : Hp} : ∀ {xs : List V} {ds : List D} (n : Nat), FDs c F xs ds → FDs c F (xs.drop n) (ds.drop n)
  | _, _, 0, r => r
  | _, _, _ + 1, .nil => .nil
  | _, _, n + 1, .cons _ t => FDs.drop n t
theorem FDs.ints {c : Cf} {F : Hp} : ∀ ns : List Int, FDs c F (ns.map V.int) (ns.map D.int)
  | [] => .nil
  | n :: ns => .cons (.int n) (FDs.ints ns)
/-! ### how the heaps move -/
structure Kp (ad : Option Addr) (H H' : Hp) : Prop where
  old : ∀ a o, some a ≠ ad → (∀ ps, o ≠ .tbl ps) → H a = some o → H' a = some o
  tbl : ∀ a ps, H a = some (.tbl ps) → ∃ ps', H' a = some (.tbl ps')
  some : ∀ a, some a = ad → H a ≠ none → H' a ≠ none
theorem Kp.refl {ad : Option Addr} (H : Hp) : Kp ad H H := ⟨fun _ _ _ _ h => h, fun _ ps h => ⟨ps, h⟩, fun _ _ h => h⟩
theorem Kp.trans {ad : Option Addr} {H H1 H2 : Hp} (a : Kp ad H H1) (b : Kp ad H1 H2) : Kp ad H H2 :=
  ⟨fun x o n m h => b.old x o n m (a.old x o n m h), fun x ps h => let ⟨p1, h1⟩ := a.tbl x ps h; b.tbl x p1 h1, fun x e h => b.some x e (a.some x e h)⟩
theorem Kp.of {ad : Option Addr} {H H' : Hp} (e : Ex H H') : Kp ad H H' := ⟨fun x o _ _ h => e x o h, fun x ps h => ⟨ps, e x _ h⟩, fun x _ h z => by
  cases q : H x with
  | none => exact h q
  | some o => rw [e x o q] at z; cases z⟩
theorem Kp.mono {ad : Option Addr} {H H' : Hp} (e : Kp none H H') : Kp ad H H' := ⟨fun x o _ m h => e.old x o (by simp) m h, e.tbl, fun x _ h z => by
  cases q : H x with
  | none => exact h q
  | some o =>
    cases o with
    | tbl ps => obtain ⟨_, z2⟩ := e.tbl x ps q; rw [z2] at z; cases z
    | _ => rw [e.old x _ (by simp) (by intro ps q; cases q) q] at z; cases z⟩
theorem Kp.free {ad : Option Addr} {H H' : Hp} (k : Kp ad H H') {p : Addr} (h : H' p = none) : H p = none := by
  cases q : H p with
  | none => rfl
  | some o =>
    by_cases ha : Option.some p = ad
    · exact absurd h (k.some p ha (by rw [q]; simp))
    · by_cases ht : ∃ ps, o = .tbl ps
      · obtain ⟨ps, rfl⟩ := ht
        obtain ⟨_, z⟩ := k.tbl p ps q
        rw [z] at h; cases h
      · rw [k.old p o ha (fun ps e => ht ⟨ps, e⟩) q] at h; cases h
/-- the frozen heap F grows to F' while H becomes H' -/
structure Nx (c : Cf) (ad : Option Addr) (F H F' H' : Hp) : Prop where
  fe : Ex F F'
  sub : Ex F' H'
  he : Kp ad H H'
  new : ∀ a, F' a ≠ none → F a = none → H a = none
  nt : ∀ a ps, F' a ≠ some (.tbl ps)
  tabs : LamX.Tabs c.T H → LamX.Tabs c.T H'
theorem Nx.trans {c : Cf} {ad : Option Addr} {F F1 F2 H H1 H2 : Hp} (a : Nx c ad F H F1 H1) (b : Nx c ad F1 H1 F2 H2) : Nx c ad F H F2 H2 where
  fe := a.fe.trans b.fe
  sub := b.sub
  he := a.he.trans b.he
  new := fun x h1 h2 => by
    by_cases q : F1 x = none
    · exact a.he.free (b.new x h1 q)
    · exact a.new x q h2
  nt := b.nt
  tabs := fun t => b.tabs (a.tabs t)
/-- nothing but new objects, F as it is -/
theorem Nx.stay {c : Cf} {ad : Option Addr} {F H H' : Hp} (s : Ex F H) (nt : ∀ a ps, F a ≠ some (.tbl ps)) (e : Ex H H') : Nx c ad F H F H' :=
  ⟨Ex.refl F, s.trans e, Kp.of e, fun _ h1 h2 => absurd h2 h1, nt, fun t => t.ext e⟩
theorem Nx.lay {c : Cf} {ad : Option Addr} {F H : Hp} {p : Addr} {o : HO} (s : Ex F H) (nt : ∀ a ps, F a ≠ some (.tbl ps)) (hp : H p = none) (ho : ∀ ps, o ≠ .tbl ps) : Nx c ad F H (upd F p o) (upd H p o) where
  fe := Ex.new (s.back hp)
  sub := fun a u e => by
    by_cases h : a = p
    · subst h; rw [upd_same] at e ⊢; exact e
    · rw [upd_ne h] at e ⊢; exact s a u e
  he := Kp.of (Ex.new hp)
  new := fun a h1 h2 => by
    by_cases h : a = p
    · subst h; exact hp
    · rw [upd_ne h] at h1; exact absurd h2 h1
  nt := fun a ps e => by
    by_cases h : a = p
    · subst h; rw [upd_same] at e; exact ho ps (Option.some.inj e)
    · rw [upd_ne h] at e; exact nt a ps e
  tabs := fun t => t.ext (Ex.new hp)
/-! ### the hand -/
structure HS where
  ad : Addr
  la : Addr
  cells : List Int
  at_ : Int
  left : Int
  seed : Int
  turn : Int
structure HSm (h h' : HS) : Prop where
  ad : h'.ad = h.ad
  la : h'.la = h.la
  cells : h'.cells = h.cells
theorem HSm.refl (h : HS) : HSm h h := ⟨rfl, rfl, rfl⟩
theorem HSm.trans {a b d : HS} (x : HSm a b) (y : HSm b d) : HSm a d := ⟨y.ad.trans x.ad, y.la.trans x.la, y.cells.trans x.cells⟩
def handK (h : HS) : List (Key × V) :=
  [(.inr "cells", .ref h.la), (.inr "at", .int h.at_), (.inr "left", .int h.left), (.inr "seed", .int h.seed), (.inr "turn", .int h.turn)]
/-! ### slots -/
inductive Sl where
  | dead | dat (d : D) | own (d : D)
inductive Own (c : Cf) (F H : Hp) : V → D → Addr → Prop
  | lst {p : Addr} {xs : List V} {ds : List D} : H p = some (.lst xs) → FDs c F xs ds → Own c F H (.ref p) (.lst ds) p
  | dic {p : Addr} {z : Bool} {es : List (NestedKey × Addr × V)} {kvs : List (D × D)} : H p = some (dN c p es) → FDk c F es kvs → Own c F H (.ref p) (.dic z kvs) p
  | told {t p : Addr} {z : Str} {zb : Bool} {es : List (NestedKey × Addr × V)} {kvs : List (D × D)} : F t = some (.tup [.str z, .ref p]) → H p = some (dN c p es) → FDk c F es kvs → Own c F H (.ref t) (.tup [.str z, .dic zb kvs]) p
theorem codeO_dN {c : Cf} {a : Addr} {q : Str} {es : List (NestedKey × Addr × V)} : LamX.CodeO a q ≠ dN c a es := by
  intro e
  unfold LamX.CodeO dN at e
  have e2 := HO.ext.inj e
  let ob : Obj := { cls := .none, data := .fields #[.none, .str q default] }
  let h0 : Heap := { objs := Array.replicate (a + 1) ob }
  have g : h0.get? a = some ob := by
    have l : (Array.replicate (a + 1) ob)[a]? = some ob := by simp
    show (match (Array.replicate (a + 1) ob)[a]? with
      | some ⟨_, _, .freed, _⟩ => none
      | o => o) = some ob
    rw [l]
  have e3 := congrFun e2 h0
  have l : ∃ (oc : Obj) (vs : Array Value) (t : Tok), h0.get? a = some oc ∧ oc.data = .fields vs ∧ vs[1]? = some (.str q t) := ⟨ob, _, default, g, rfl, rfl⟩
  rw [e3] at l
  obtain ⟨_, _, xs, _, o, de, ep, h1, _, h2, _⟩ := l
  rw [g] at h1
  cases h1
  cases h2
theorem Own.notC {c : Cf} {F H : Hp} {v : V} {d : D} {p : Addr} (o : Own c F H v d p) (q : Str) : H p ≠ some (LamX.CodeO p q) := by
  cases o with
  | lst h _ => intro e; rw [h] at e; unfold LamX.CodeO at e; cases e
  | dic h _ => intro e; rw [h] at e; exact codeO_dN (Option.some.inj e).symm
  | told _ h _ => intro e; rw [h] at e; exact codeO_dN (Option.some.inj e).symm
theorem Own.notT {c : Cf} {F H : Hp} {v : V} {d : D} {p : Addr} (o : Own c F H v d p) : ∃ u, H p = some u ∧ (∀ ps, u ≠ .tbl ps) ∧ (∀ kvs, u ≠ .dK kvs) := by
  cases o with
  | lst h _ => exact ⟨_, h, (by intro ps e; cases e), (by intro ps e; cases e)⟩
  | dic h _ => exact ⟨_, h, (by intro ps e; unfold dN at e; cases e), (by intro ps e; unfold dN at e; cases e)⟩
  | told _ h _ => exact ⟨_, h, (by intro ps e; unfold dN at e; cases e), (by intro ps e; unfold dN at e; cases e)⟩
theorem Own.mono {c : Cf} {F F' H H' : Hp} {v : V} {d : D} {p : Addr} (o : Own c F H v d p) (e : Ex F F') (h : ∀ u, H p = some u → H' p = some u) : Own c F' H' v d p := by
  cases o with
  | lst h1 h2 => exact .lst (h _ h1) (h2.mono e)
  | dic h1 h2 => exact .dic (h _ h1) (h2.mono e)
  | told h0 h1 h2 => exact .told (e _ _ h0) (h _ h1) (h2.mono e)
/-- what an owned thing reads as for the moment -/
def frzD : D → D
  | .dic _ kvs => .dic false kvs
  | .tup [.str z, .dic _ kvs] => .tup [.str z, .dic false kvs]
  | d => d
theorem Own.frz {c : Cf} {F H : Hp} {v : V} {d : D} {p : Addr} {u : HO} (o : Own c F H v d p) (hn : F p = none) (hu : H p = some u) : FD c (upd F p u) v (frzD d) := by
  have e : Ex F (upd F p u) := Ex.new hn
  cases o with
  | lst h1 h2 =>
    rw [h1] at hu; cases hu
    exact .lst upd_same (h2.mono e)
  | dic h1 h2 =>
    rw [h1] at hu; cases hu
    exact .dicF upd_same (h2.mono e)
  | @told t p' z zb es kvs h0 h1 h2 =>
    rw [h1] at hu; cases hu
    exact .tup (.inl (.inl (e _ _ h0))) (.cons (.str z) (.cons (.dicF upd_same (h2.mono e)) .nil))
abbrev Env := List Sl
/-- the entry's heaps, and what is owned besides the slots (a comprehension's list) -/
structure Ba where
  F0 : Hp
  H0 : Hp
  hd : List (Addr × D)
def Hold (c : Cf) (B : Ba) (F H : Hp) (o : Option (Option V)) (p : Addr) : Sl → Prop
  | .dead => True
  | .dat d => ∃ v, o = some (some v) ∧ FD c F v d
  | .own d => ∃ v, o = some (some v) ∧ Own c F H v d p ∧ F p = none ∧ B.H0 p = none
def isOwn (Γ : Env) (i : Nat) : Prop := ∃ d, Γ[i]? = some (.own d)
structure DSF (c : Cf) (B : Ba) (hs : HS) (Γ : Env) (tmp : List (D × V)) (σ : L2.St) (H : Hp) (F : Hp) (ow : Nat → Addr) : Prop where
  sub : Ex F H
  nt : ∀ a ps, F a ≠ some (.tbl ps)
  ex0 : Ex B.F0 F
  new : ∀ a, F a ≠ none → B.F0 a = none → B.H0 a = none
  old : Kp (some hs.ad) B.H0 H
  hF : F hs.ad = none
  hH : H hs.ad = some (.dK (handK hs)) ∧ FD c F (.ref hs.la) (.lst (hs.cells.map D.int))
  tabs : LamX.Tabs c.T H
  len : Γ.length = σ.length
  slot : ∀ i s, Γ[i]? = some s → Hold c B F H (σ[i]?) (ow i) s
  sep : ∀ i j, isOwn Γ i → isOwn Γ j → ow i = ow j → i = j
  tmp : ∀ p ∈ tmp, FD c F p.2 p.1
  hid : ∀ q ∈ B.hd, Own c F H (.ref q.1) q.2 q.1 ∧ F q.1 = none ∧ B.H0 q.1 = none ∧ ∀ i, isOwn Γ i → ow i ≠ q.1
  hnd : (B.hd.map (·.1)).Nodup
def DS (c : Cf) (B : Ba) (hs : HS) (Γ : Env) (tmp : List (D × V)) (σ : L2.St) (H : Hp) : Prop := ∃ F ow, DSF c B hs Γ tmp σ H F ow
section
variable {c : Cf} {B : Ba} {hs : HS} {Γ : Env} {tmp : List (D × V)} {σ : L2.St} {H H' F F' : Hp} {ow : Nat → Addr}
/-- the heaps move, the hand stays -/
theorem DSF.step (d : DSF c B hs Γ tmp σ H F ow) (n : Nx c none F H F' H') : DSF c B hs Γ tmp σ H' F' ow := by
  have keep : ∀ a o, (∀ ps, o ≠ .tbl ps) → H a = some o → H' a = some o := fun a o m h => n.he.old a o (by simp) m h
  have kown : ∀ {v : V} {x : D} {p : Addr}, Own c F H v x p → F p = none → Own c F' H' v x p ∧ F' p = none := fun {v x p} f g => by
    obtain ⟨u, hu, ut, _⟩ := f.notT
    refine ⟨f.mono n.fe (fun u' hu' => keep _ _ (by rw [hu] at hu'; cases hu'; exact ut) hu'), ?_⟩
    cases q2 : F' p with
    | none => rfl
    | some o => rw [n.new p (by rw [q2]; simp) g] at hu; cases hu
  refine ⟨n.sub, n.nt, d.ex0.trans n.fe, fun a h1 h2 => ?_, d.old.trans n.he.mono, ?_, ?_, n.tabs d.tabs, d.len, fun i s h => ?_, d.sep, fun p hp => (d.tmp p hp).mono n.fe,
    fun q hq => let ⟨a1, a2, a3, a4⟩ := d.hid q hq; ⟨(kown a1 a2).1, (kown a1 a2).2, a3, a4⟩, d.hnd⟩
  · by_cases q : F a = none
    · exact d.old.free (n.new a h1 q)
    · exact d.new a q h2
  · cases q : F' hs.ad with
    | none => rfl
    | some o =>
      obtain ⟨h, _⟩ := d.hH
      rw [n.new hs.ad (by rw [q]; simp) d.hF] at h; cases h
  · obtain ⟨h, f⟩ := d.hH
    exact ⟨keep _ _ (by intro ps z; cases z) h, f.mono n.fe⟩
  · have q := d.slot i s h
    cases s with
    | dead => trivial
    | dat dd => obtain ⟨v, e, f⟩ := q; exact ⟨v, e, f.mono n.fe⟩
    | own dd =>
      obtain ⟨v, e, f, g, z⟩ := q
      exact ⟨v, e, (kown f g).1, (kown f g).2, z⟩
theorem DSF.push (d : DSF c B hs Γ tmp σ H F ow) {v : V} {x : D} (h : FD c F v x) : DSF c B hs Γ ((x, v) :: tmp) σ H F ow :=
  ⟨d.sub, d.nt, d.ex0, d.new, d.old, d.hF, d.hH, d.tabs, d.len, d.slot, d.sep, fun p hp => by
    rcases List.mem_cons.mp hp with rfl | hp
    · exact h
    · exact d.tmp p hp, d.hid, d.hnd⟩
theorem DSF.drop (d : DSF c B hs Γ tmp σ H F ow) {t2 : List (D × V)} (h : ∀ p ∈ t2, p ∈ tmp) : DSF c B hs Γ t2 σ H F ow :=
  ⟨d.sub, d.nt, d.ex0, d.new, d.old, d.hF, d.hH, d.tabs, d.len, d.slot, d.sep, fun p hp => d.tmp p (h p hp), d.hid, d.hnd⟩
theorem DS.drop (d : DS c B hs Γ tmp σ H) {t2 : List (D × V)} (h : ∀ p ∈ t2, p ∈ tmp) : DS c B hs Γ t2 σ H := let ⟨F, ow, q⟩ := d; ⟨F, ow, q.drop h⟩
theorem DSF.pop {x : D × V} (d : DSF c B hs Γ (x :: tmp) σ H F ow) : DSF c B hs Γ tmp σ H F ow := d.drop fun _ h => List.mem_cons_of_mem _ h
theorem DS.pop {x : D × V} (d : DS c B hs Γ (x :: tmp) σ H) : DS c B hs Γ tmp σ H := d.drop fun _ h => List.mem_cons_of_mem _ h
end
/-! ### what a reading computes -/
abbrev EDn := Env → HS → Option (D × HS)
/-- te computes f -/
def Snd (c : Cf) (te : TE) (f : EDn) : Prop := ∀ (B : Ba) (hs : HS) (Γ : Env) (tmp : List (D × V)) (σ : L2.St) (H : Hp), DS c B hs Γ tmp σ H →
  ∀ (d : D) (hs' : HS), f Γ hs = some (d, hs') → ∀ Q : VK, (∀ v H', HSm hs hs' → DS c B hs' Γ ((d, v) :: tmp) σ H' → Kp (some hs.ad) H H' → Q v H') → te σ H Q
abbrev LDn := Env → HS → Option (List D × HS)
def SndA (c : Cf) (ta : TA) (f : LDn) : Prop := ∀ (B : Ba) (hs : HS) (Γ : Env) (tmp : List (D × V)) (σ : L2.St) (H : Hp), DS c B hs Γ tmp σ H →
  ∀ (ds : List D) (hs' : HS), f Γ hs = some (ds, hs') → ∀ Q : List V → Hp → Prop, (∀ vs H', HSm hs hs' → vs.length = ds.length → DS c B hs' Γ (ds.zip vs ++ tmp) σ H' → Kp (some hs.ad) H H' → Q vs H') → ta σ H Q
abbrev BDn := Env → HS → Option (Bool × HS)
def SndT (c : Cf) (tt : TT) (f : BDn) : Prop := ∀ (B : Ba) (hs : HS) (Γ : Env) (tmp : List (D × V)) (σ : L2.St) (H : Hp), DS c B hs Γ tmp σ H →
  ∀ (b : Bool) (hs' : HS), f Γ hs = some (b, hs') → ∀ Q : Bool → Hp → Prop, (∀ H', HSm hs hs' → DS c B hs' Γ tmp σ H' → Kp (some hs.ad) H H' → Q b H') → tt σ H Q
/-- a reading by data, values, heap -/
def rD (c : Cf) (g : D → D → Option D) : R2 := fun x y H Q => ∃ F d1 d2 d, Ex F H ∧ (∀ a ps, F a ≠ some (.tbl ps)) ∧ FD c F x d1 ∧ FD c F y d2 ∧ g d1 d2 = some d ∧ ∀ v H' F', Nx c none F H F' H' → FD c F' v d → Q v H'
def rD1 (c : Cf) (g : D → Option D) : V → Hp → VK → Prop := fun x H Q => ∃ F d1 d, Ex F H ∧ (∀ a ps, F a ≠ some (.tbl ps)) ∧ FD c F x d1 ∧ g d1 = some d ∧ ∀ v H' F', Nx c none F H F' H' → FD c F' v d → Q v H'
def rDs (c : Cf) (g : List D → Option D) : List V → Hp → VK → Prop := fun xs H Q => ∃ F ds d, Ex F H ∧ (∀ a ps, F a ≠ some (.tbl ps)) ∧ FDs c F xs ds ∧ g ds = some d ∧ ∀ v H' F', Nx c none F H F' H' → FD c F' v d → Q v H'
def eVar (i : Nat) : EDn := fun Γ hs => match Γ[i]? with
  | some (.dat d) => some (d, hs)
  | _ => none
def eC (d : D) : EDn := fun _ hs => some (d, hs)
def eBin (g : D → D → Option D) (f1 f2 : EDn) : EDn := fun Γ hs => (f1 Γ hs).bind fun r1 => (f2 Γ r1.2).bind fun r2 => (g r1.1 r2.1).map fun d => (d, r2.2)
def eUn (g : D → Option D) (f1 : EDn) : EDn := fun Γ hs => (f1 Γ hs).bind fun r1 => (g r1.1).map fun d => (d, r1.2)
def lNil : LDn := fun _ hs => some ([], hs)
def lCons (f : EDn) (l : LDn) : LDn := fun Γ hs => (f Γ hs).bind fun r1 => (l Γ r1.2).map fun r2 => (r1.1 :: r2.1, r2.2)
def eFn (g : List D → Option D) (l : LDn) : EDn := fun Γ hs => (l Γ hs).bind fun r => (g r.1).map fun d => (d, r.2)
section
variable {c : Cf} {te ta tb : TE} {f f1 f2 : EDn} {tas : TA} {l : LDn}
theorem snd_var {i : Nat} : Snd c (tVar i) (eVar i) := by
  intro B hs Γ tmp σ H ⟨F, ow, D⟩ d hs' e Q q
  unfold eVar at e
  split at e
  · rename_i d0 hi
    cases e
    obtain ⟨v, h1, h2⟩ := D.slot i _ hi
    exact ⟨v, h1, q v H (HSm.refl hs) ⟨F, ow, D.push h2⟩ (Kp.refl H)⟩
  · cases e
theorem snd_c {v : V} {d : D} (h : ∀ F, FD c F v d) : Snd c (tC v) (eC d) := by
  intro B hs Γ tmp σ H ⟨F, ow, D⟩ d' hs' e Q q
  cases e
  exact q v H (HSm.refl hs) ⟨F, ow, D.push (h F)⟩ (Kp.refl H)
theorem snd_bin {g : D → D → Option D} (ha : Snd c ta f1) (hb : Snd c tb f2) : Snd c (tOp (rD c g) ta tb) (eBin g f1 f2) := by
  intro B hs Γ tmp σ H D d hs' e Q q
  unfold eBin at e
  obtain ⟨⟨d1, h1⟩, e1, e⟩ := Option.bind_eq_some_iff.mp e
  obtain ⟨⟨d2, h2⟩, e2, e⟩ := Option.bind_eq_some_iff.mp e
  obtain ⟨d', e3, e⟩ := Option.map_eq_some_iff.mp e
  cases e
  refine ha B hs Γ tmp σ H D d1 h1 e1 _ fun v1 H1 a1 D1 k1 => ?_
  refine hb B h1 Γ _ σ H1 D1 d2 h2 e2 _ fun v2 H2 a2 D2 k2 => ?_
  obtain ⟨F, ow, D2⟩ := D2
  refine ⟨F, d1, d2, d, D2.sub, D2.nt, D2.tmp (d1, v1) (by simp), D2.tmp (d2, v2) (by simp), e3, fun v H' F' n fv => ?_⟩
  rw [a1.ad] at k2
  exact q v H' (a1.trans a2) ⟨F', ow, ((D2.step n).push fv).drop (by intro p hp; simp at hp ⊢; rcases hp with h | h <;> simp [h])⟩ (k1.trans (k2.trans n.he.mono))
theorem snd_un {g : D → Option D} (ha : Snd c ta f1) : Snd c (tUn (rD1 c g) ta) (eUn g f1) := by
  intro B hs Γ tmp σ H D d hs' e Q q
  unfold eUn at e
  obtain ⟨⟨d1, h1⟩, e1, e⟩ := Option.bind_eq_some_iff.mp e
  obtain ⟨d', e3, e⟩ := Option.map_eq_some_iff.mp e
  cases e
  refine ha B hs Γ tmp σ H D d1 h1 e1 _ fun v1 H1 a1 D1 k1 => ?_
  obtain ⟨F, ow, D2⟩ := D1
  refine ⟨F, d1, d, D2.sub, D2.nt, D2.tmp (d1, v1) (by simp), e3, fun v H' F' n fv => ?_⟩
  exact q v H' a1 ⟨F', ow, ((D2.step n).push fv).drop (by intro p hp; simp at hp ⊢; rcases hp with h | h <;> simp [h])⟩ (k1.trans n.he.mono)
theorem snd_nil : SndA c tNil lNil := by
  intro B hs Γ tmp σ H D ds hs' e Q q
  cases e
  exact q [] H (HSm.refl hs) rfl D (Kp.refl H)
theorem snd_cons (ha : Snd c ta f) (hl : SndA c tas l) : SndA c (tCons ta tas) (lCons f l) := by
  intro B hs Γ tmp σ H D ds hs' e Q q
  unfold lCons at e
  obtain ⟨⟨d1, h1⟩, e1, e⟩ := Option.bind_eq_some_iff.mp e
  obtain ⟨⟨d2, h2⟩, e2, e⟩ := Option.map_eq_some_iff.mp e
  cases e
  refine ha B hs Γ tmp σ H D d1 h1 e1 _ fun v1 H1 a1 D1 k1 => ?_
  refine hl B h1 Γ _ σ H1 D1 d2 _ e2 _ fun v2 H2 a2 ln D2 k2 => ?_
  rw [a1.ad] at k2
  refine q (v1 :: v2) H2 (a1.trans a2) (by simp [ln]) (D2.drop ?_) (k1.trans k2)
  intro p hp
  simp at hp ⊢
  rcases hp with h | h | h <;> simp [h]
theorem fds_zip {F : Hp} : ∀ {ds : List D} {vs : List V}, vs.length = ds.length → (∀ p ∈ ds.zip vs, FD c F p.2 p.1) → FDs c F vs ds
  | [], [], _, _ => .nil
  | [], _ :: _, h, _ => by simp at h
  | _ :: _, [], h, _ => by simp at h
  | d :: ds, v :: vs, h, k => .cons (k (d, v) (by simp)) (fds_zip (by simpa using h) fun p hp => k p (by simp [hp]))
theorem snd_fn {g : List D → Option D} (hl : SndA c tas l) : Snd c (tCB (rDs c g) tas) (eFn g l) := by
  intro B hs Γ tmp σ H D d hs' e Q q
  unfold eFn at e
  obtain ⟨⟨ds, h1⟩, e1, e⟩ := Option.bind_eq_some_iff.mp e
  obtain ⟨d', e3, e⟩ := Option.map_eq_some_iff.mp e
  cases e
  refine hl B hs Γ tmp σ H D ds h1 e1 _ fun vs H1 a1 ln D1 k1 => ?_
  obtain ⟨F, ow, D2⟩ := D1
  refine ⟨F, ds, d, D2.sub, D2.nt, fds_zip ln (fun p hp => D2.tmp p (List.mem_append_left _ hp)), e3, fun v H' F' n fv => ?_⟩
  exact q v H' a1 ⟨F', ow, ((D2.step n).push fv).drop (by intro p hp; simp at hp ⊢; rcases hp with h | h <;> simp [h])⟩ (k1.trans n.he.mono)
end
end Dl
/-! The data level: statements, loops, comprehensions, calls. -/
namespace Dl
open PySem PySem.Spec PyProof.Rows L2
section
variable {c : Cf} {B : Ba} {hs hs' : HS} {Γ : Env} {tmp : List (D × V)} {σ : L2.St} {H H' F F' : Hp} {ow : Nat → Addr}
/-- behind a call: the hand may have changed -/
theorem DSF.call (d : DSF c B hs Γ tmp σ H F ow) (n : Nx c (some hs.ad) F H F' H') (had : hs'.ad = hs.ad) (hf : F' hs'.ad = none)
    (hh : H' hs'.ad = some (.dK (handK hs')) ∧ FD c F' (.ref hs'.la) (.lst (hs'.cells.map D.int))) : DSF c B hs' Γ tmp σ H' F' ow := by
  have kown : ∀ {v : V} {x : D} {p : Addr}, Own c F H v x p → F p = none → Own c F' H' v x p ∧ F' p = none := fun {v x p} f g => by
    obtain ⟨u, hu, ut, uk⟩ := f.notT
    obtain ⟨hl, _⟩ := d.hH
    have ne : some p ≠ some hs.ad := fun e => by
      cases e
      rw [hl] at hu; cases hu
      exact uk _ rfl
    refine ⟨f.mono n.fe (fun u' hu' => n.he.old _ _ ne (by rw [hu] at hu'; cases hu'; exact ut) hu'), ?_⟩
    cases q2 : F' p with
    | none => rfl
    | some o => rw [n.new p (by rw [q2]; simp) g] at hu; cases hu
  refine ⟨n.sub, n.nt, d.ex0.trans n.fe, fun a h1 h2 => ?_, by rw [had]; exact d.old.trans n.he, hf, hh, n.tabs d.tabs, d.len, fun i s h => ?_, d.sep, fun p hp => (d.tmp p hp).mono n.fe,
    fun q hq => let ⟨a1, a2, a3, a4⟩ := d.hid q hq; ⟨(kown a1 a2).1, (kown a1 a2).2, a3, a4⟩, d.hnd⟩
  · by_cases q : F a = none
    · exact d.old.free (n.new a h1 q)
    · exact d.new a q h2
  · have q := d.slot i s h
    cases s with
    | dead => trivial
    | dat dd => obtain ⟨v, e, f⟩ := q; exact ⟨v, e, f.mono n.fe⟩
    | own dd =>
      obtain ⟨v, e, f, g, z⟩ := q
      exact ⟨v, e, (kown f g).1, (kown f g).2, z⟩
/-- an abstract heap's slot i is written by data -/
theorem isOwn_set {i j : Nat} {s : Sl} (h : isOwn (Γ.set i s) j) (hs : ∀ d, s ≠ .own d) : j ≠ i ∧ isOwn Γ j := by
  obtain ⟨d, h⟩ := h
  by_cases e : i = j
  · subst e
    rw [List.getElem?_set] at h
    simp at h
    exact absurd h.2 (hs d)
  · rw [List.getElem?_set_ne e] at h
    exact ⟨fun z => e z.symm, d, h⟩
theorem DSF.set {i : Nat} {v : V} {x : D} (d : DSF c B hs Γ tmp σ H F ow) (f : FD c F v x) : DSF c B hs (Γ.set i (.dat x)) tmp (σ.set i (some v)) H F ow := by
  refine ⟨d.sub, d.nt, d.ex0, d.new, d.old, d.hF, d.hH, d.tabs, by rw [List.length_set, List.length_set]; exact d.len, fun j s h => ?_, fun j k h1 h2 => d.sep j k (isOwn_set h1 (by intro _ z; cases z)).2 (isOwn_set h2 (by intro _ z; cases z)).2, d.tmp,
    fun q hq => let ⟨a1, a2, a3, a4⟩ := d.hid q hq; ⟨a1, a2, a3, fun j hj => a4 j (isOwn_set hj (by intro _ z; cases z)).2⟩, d.hnd⟩
  by_cases e : i = j
  · subst e
    rw [List.getElem?_set] at h
    simp only [if_true] at h
    split at h
    · rename_i hl
      cases h
      have hl2 : i < σ.length := by rw [← d.len]; exact hl
      exact ⟨v, by rw [List.getElem?_set_self hl2], f⟩
    · cases h
  · rw [List.getElem?_set_ne e] at h ⊢
    exact d.slot j s h
/-- a slot is forgotten, and may hold anything -/
theorem DSF.kill {i : Nat} (d : DSF c B hs Γ tmp σ H F ow) (o : Option V) : DSF c B hs (Γ.set i .dead) tmp (σ.set i o) H F ow := by
  refine ⟨d.sub, d.nt, d.ex0, d.new, d.old, d.hF, d.hH, d.tabs, by rw [List.length_set, List.length_set]; exact d.len, fun j s h => ?_, fun j k h1 h2 => d.sep j k (isOwn_set h1 (by intro _ z; cases z)).2 (isOwn_set h2 (by intro _ z; cases z)).2, d.tmp,
    fun q hq => let ⟨a1, a2, a3, a4⟩ := d.hid q hq; ⟨a1, a2, a3, fun j hj => a4 j (isOwn_set hj (by intro _ z; cases z)).2⟩, d.hnd⟩
  by_cases e : i = j
  · subst e
    rw [List.getElem?_set] at h
    simp only [if_true] at h
    split at h
    · cases h; trivial
    · cases h
  · rw [List.getElem?_set_ne e] at h ⊢
    exact d.slot j s h
theorem set_self' {α : Type} : ∀ (l : List α) (i : Nat) (x : α), l[i]? = some x → l.set i x = l
  | [], _, _, h => by simp at h
  | a :: l, 0, x, h => by simp at h; subst h; rfl
  | a :: l, i + 1, x, h => by
    have := set_self' l i x (by simpa using h)
    simp [this]
theorem DSF.forget {i : Nat} (d : DSF c B hs Γ tmp σ H F ow) : DSF c B hs (Γ.set i .dead) tmp σ H F ow := by
  cases q : σ[i]? with
  | none =>
    have h1 : Γ.set i .dead = Γ := by
      apply List.set_eq_of_length_le
      rw [d.len]
      exact List.getElem?_eq_none_iff.mp q
    rw [h1]; exact d
  | some o =>
    have := d.kill (i := i) o
    rwa [set_self' σ i o q] at this
/-- a dead slot's value is free -/
theorem DSF.loose {i : Nat} (d : DSF c B hs Γ tmp σ H F ow) (hd : ∀ s, Γ[i]? = some s → s = .dead) (o : Option V) : DSF c B hs Γ tmp (σ.set i o) H F ow := by
  have := d.kill (i := i) o
  cases q : Γ[i]? with
  | none =>
    have h1 : Γ.set i .dead = Γ := by
      apply List.set_eq_of_length_le
      exact List.getElem?_eq_none_iff.mp q
    rwa [h1] at this
  | some s =>
    have e := hd s q
    subst e
    rwa [set_self' Γ i _ q] at this
/-- a new object of one's own in slot i -/
theorem isOwn_setO {i j : Nat} {s : Sl} (h : isOwn (Γ.set i s) j) : j = i ∨ isOwn Γ j := by
  obtain ⟨d, h⟩ := h
  by_cases e : i = j
  · exact .inl e.symm
  · rw [List.getElem?_set_ne e] at h
    exact .inr ⟨d, h⟩
theorem DSF.own {i : Nat} {v : V} {x : D} {p : Addr} {o : HO} (d : DSF c B hs Γ tmp σ H F ow) (hp : H p = none) (hx : Own c F (upd H p o) v x p) : DSF c B hs (Γ.set i (.own x)) tmp (σ.set i (some v)) (upd H p o) F (fun j => if j = i then p else ow j) := by
  have hF : F p = none := d.sub.back hp
  have hB : B.H0 p = none := d.old.free hp
  have e : Ex H (upd H p o) := Ex.new hp
  have d1 := d.step (Nx.stay d.sub d.nt e)
  have ne : ∀ j, isOwn Γ j → ow j ≠ p := fun j ⟨dd, hj⟩ z => by
    obtain ⟨v, e1, f, g, z'⟩ := d.slot j _ hj
    obtain ⟨u, hu, _⟩ := f.notT
    rw [z, hp] at hu; cases hu
  refine ⟨d1.sub, d1.nt, d1.ex0, d1.new, d1.old, d1.hF, d1.hH, d1.tabs, by rw [List.length_set, List.length_set]; exact d.len, fun j s h => ?_, fun j k h1 h2 => ?_, d1.tmp, fun q hq => ?_, d.hnd⟩
  · by_cases ej : i = j
    · subst ej
      rw [List.getElem?_set] at h
      simp only [if_true] at h
      split at h
      · rename_i hl
        cases h
        have hl2 : i < σ.length := by rw [← d.len]; exact hl
        refine ⟨v, by rw [List.getElem?_set_self hl2], ?_, ?_, ?_⟩ <;> simp only [if_true]
        · exact hx
        · exact hF
        · exact hB
      · cases h
    · rw [List.getElem?_set_ne ej] at h ⊢
      have := d1.slot j s h
      have nj : j ≠ i := fun z => ej z.symm
      simp only [if_neg nj]
      exact this
  · intro e2
    by_cases ej : j = i <;> by_cases ek : k = i
    · rw [ej, ek]
    · simp only [if_pos ej, if_neg ek] at e2
      exact absurd e2.symm (ne k ((isOwn_setO h2).resolve_left ek))
    · simp only [if_neg ej, if_pos ek] at e2
      exact absurd e2 (ne j ((isOwn_setO h1).resolve_left ej))
    · simp only [if_neg ej, if_neg ek] at e2
      exact d.sep j k ((isOwn_setO h1).resolve_left ej) ((isOwn_setO h2).resolve_left ek) e2
  · obtain ⟨a1, a2, a3, a4⟩ := d1.hid q hq
    refine ⟨a1, a2, a3, fun j hj => ?_⟩
    by_cases ej : j = i
    · simp only [if_pos ej]
      intro z
      obtain ⟨b1, _⟩ := d.hid q hq
      obtain ⟨u, hu, _⟩ := b1.notT
      rw [← z, hp] at hu; cases hu
    · simp only [if_neg ej]
      exact a4 j ((isOwn_setO hj).resolve_left ej)
/-- what one owns in slot i is changed -/
theorem DSF.mut {i : Nat} {x0 x : D} {v : V} {o : HO} (d : DSF c B hs Γ tmp σ H F ow) (hi : Γ[i]? = some (.own x0)) (hv : σ[i]? = some (some v)) (ho : ∀ ps, o ≠ .tbl ps) (hx : Own c F (upd H (ow i) o) v x (ow i)) : DSF c B hs (Γ.set i (.own x)) tmp σ (upd H (ow i) o) F ow := by
  obtain ⟨v0, e1, f1, f2, f3⟩ := d.slot i _ hi
  obtain ⟨u0, hu0, ut0, uk0⟩ := f1.notT
  have at_ : ∀ a, a ≠ ow i → upd H (ow i) o a = H a := fun a h => upd_ne h
  have neF : ∀ a, F a ≠ none → a ≠ ow i := fun a h z => h (by rw [z]; exact f2)
  obtain ⟨hl, fl⟩ := d.hH
  have neh : hs.ad ≠ ow i := fun z => by rw [← z, hl] at hu0; cases hu0; exact uk0 _ rfl
  have hli : i < Γ.length := (List.getElem?_eq_some_iff.mp hi).1
  have neo : ∀ a u, B.H0 a = some u → a ≠ ow i := fun a u e z => by rw [z, f3] at e; cases e
  have own2 : ∀ {w : V} {y : D} {p : Addr}, Own c F H w y p → p ≠ ow i → Own c F (upd H (ow i) o) w y p := fun f n => f.mono (Ex.refl F) fun u hu => by rw [at_ _ n]; exact hu
  have sep2 : ∀ j, isOwn Γ j → j ≠ i → ow j ≠ ow i := fun j hj n z => n (d.sep j i hj ⟨_, hi⟩ z)
  have back : ∀ j, isOwn (Γ.set i (.own x)) j → isOwn Γ j := fun j hj => (isOwn_setO hj).elim (fun z => z ▸ ⟨_, hi⟩) id
  refine ⟨fun a u e => by rw [at_ a (neF a (by rw [e]; simp))]; exact d.sub a u e, d.nt, d.ex0, d.new,
    ⟨fun a u ha hu e => by rw [at_ a (neo a u e)]; exact d.old.old a u ha hu e, fun a ps e => by rw [at_ a (neo a _ e)]; exact d.old.tbl a ps e, fun a h1 h2 => by rw [at_ a (by cases h1; exact neh)]; exact d.old.some a h1 h2⟩,
    d.hF, ⟨by rw [at_ _ neh]; exact hl, fl⟩, fun p hp => ?_, by rw [List.length_set]; exact d.len, fun j s h => ?_, fun j k h1 h2 => d.sep j k (back j h1) (back k h2), d.tmp, fun q hq => ?_, d.hnd⟩
  · obtain ⟨ps, t1, t2, t3⟩ := d.tabs p hp
    refine ⟨ps, by rw [at_ _ (fun z => by rw [z, hu0] at t1; exact ut0 _ (Option.some.inj t1))]; exact t1, t2, fun pos cv hc => ?_⟩
    obtain ⟨cc, c1, c2⟩ := t3 pos cv hc
    exact ⟨cc, c1, by rw [at_ _ (fun z => f1.notC p.2 (by rw [← z]; exact c2))]; exact c2⟩
  · by_cases ej : i = j
    · subst ej
      rw [List.getElem?_set_self hli] at h
      cases h
      exact ⟨v, hv, hx, f2, f3⟩
    · rw [List.getElem?_set_ne ej] at h
      have q := d.slot j s h
      cases s with
      | dead => trivial
      | dat dd => exact q
      | own dd =>
        obtain ⟨w, g1, g2, g3, g4⟩ := q
        exact ⟨w, g1, own2 g2 (sep2 j ⟨_, h⟩ (fun z => ej z.symm)), g3, g4⟩
  · obtain ⟨a1, a2, a3, a4⟩ := d.hid q hq
    exact ⟨own2 a1 (fun z => a4 i ⟨_, hi⟩ z.symm), a2, a3, fun j hj => a4 j (back j hj)⟩
/-- what one owns in slot i is frozen -/
theorem DSF.freeze {i : Nat} {x : D} (d : DSF c B hs Γ tmp σ H F ow) (hi : Γ[i]? = some (.own x)) : ∃ F', Ex F F' ∧ DSF c B hs (Γ.set i (.dat (frzD x))) tmp σ H F' ow := by
  obtain ⟨v0, e1, f1, f2, f3⟩ := d.slot i _ hi
  obtain ⟨u, hu, ut, uk⟩ := f1.notT
  have e : Ex F (upd F (ow i) u) := Ex.new f2
  obtain ⟨hl, fl⟩ := d.hH
  have neh : hs.ad ≠ ow i := fun z => by rw [← z, hl] at hu; cases hu; exact uk _ rfl
  have hli : i < Γ.length := (List.getElem?_eq_some_iff.mp hi).1
  have ownk : ∀ {w : V} {y : D} {p : Addr}, Own c F H w y p → F p = none → p ≠ ow i → Own c (upd F (ow i) u) H w y p ∧ upd F (ow i) u p = none := fun f g n => ⟨f.mono e fun _ h => h, by rw [upd_ne n]; exact g⟩
  refine ⟨_, e, ⟨fun a o h => ?_, fun a ps h => ?_, d.ex0.trans e, fun a h1 h2 => ?_, d.old, by rw [upd_ne neh]; exact d.hF, ⟨hl, fl.mono e⟩, d.tabs, by rw [List.length_set]; exact d.len, fun j s h => ?_, fun j k h1 h2 => d.sep j k (isOwn_set h1 (by intro _ z; cases z)).2 (isOwn_set h2 (by intro _ z; cases z)).2, fun p hp => (d.tmp p hp).mono e, fun q hq => ?_, d.hnd⟩⟩
  · by_cases z : a = ow i
    · subst z; rw [upd_same] at h; cases h; exact hu
    · rw [upd_ne z] at h; exact d.sub a o h
  · by_cases z : a = ow i
    · subst z; rw [upd_same] at h; exact ut ps (Option.some.inj h)
    · rw [upd_ne z] at h; exact d.nt a ps h
  · by_cases z : a = ow i
    · subst z; exact f3
    · rw [upd_ne z] at h1; exact d.new a h1 h2
  · by_cases ej : i = j
    · subst ej
      rw [List.getElem?_set_self hli] at h
      cases h
      exact ⟨v0, e1, f1.frz f2 hu⟩
    · rw [List.getElem?_set_ne ej] at h
      have q := d.slot j s h
      cases s with
      | dead => trivial
      | dat dd => obtain ⟨w, g1, g2⟩ := q; exact ⟨w, g1, g2.mono e⟩
      | own dd =>
        obtain ⟨w, g1, g2, g3, g4⟩ := q
        have n : ow j ≠ ow i := fun z => ej (d.sep i j ⟨_, hi⟩ ⟨_, h⟩ z.symm)
        exact ⟨w, g1, (ownk g2 g3 n).1, (ownk g2 g3 n).2, g4⟩
  · obtain ⟨a1, a2, a3, a4⟩ := d.hid q hq
    have n : q.1 ≠ ow i := fun z => a4 i ⟨_, hi⟩ z.symm
    exact ⟨(ownk a1 a2 n).1, (ownk a1 a2 n).2, a3, fun j hj => a4 j (isOwn_set hj (by intro _ z; cases z)).2⟩
/-- a dict of one's own in slot i is frozen for good -/
theorem DSF.freezeZ {i : Nat} {z : Bool} {kvs : List (D × D)} {p : Addr} {es : List (NestedKey × Addr × V)} {od : Obj} (d : DSF c B hs Γ tmp σ H F ow) (hi : Γ[i]? = some (.own (.dic z kvs))) (hv : σ[i]? = some (some (.ref p))) (hp : H p = some (dN c p es)) (fk : FDk c F es kvs) :
    DSF c B hs (Γ.set i (.dat (.dic true kvs))) tmp σ (upd H p (.frz od (dN c p es))) (upd F p (.frz od (dN c p es))) ow := by
  obtain ⟨v0, e1, f1, f2, f3⟩ := d.slot i _ hi
  rw [hv] at e1; cases e1
  have ep : ow i = p := by
    generalize ow i = q at f1
    cases f1
    rfl
  rw [ep] at f1 f2 f3
  have e : Ex F (upd F p (.frz od (dN c p es))) := Ex.new f2
  obtain ⟨hl, fl⟩ := d.hH
  have neh : hs.ad ≠ p := fun z => by rw [← z, hl] at hp; unfold dN at hp; cases hp
  have hli : i < Γ.length := (List.getElem?_eq_some_iff.mp hi).1
  have neo : ∀ a u, B.H0 a = some u → a ≠ p := fun a u e z => by rw [z, f3] at e; cases e
  have at_ : ∀ a, a ≠ p → upd H p (.frz od (dN c p es)) a = H a := fun a h => upd_ne h
  have ownk : ∀ {w : V} {y : D} {q : Addr}, Own c F H w y q → F q = none → q ≠ p → Own c (upd F p (.frz od (dN c p es))) (upd H p (.frz od (dN c p es))) w y q ∧ upd F p (.frz od (dN c p es)) q = none := fun f g n => ⟨f.mono e fun u hu => by rw [at_ _ n]; exact hu, by rw [upd_ne n]; exact g⟩
  refine ⟨fun a o h => ?_, fun a ps h => ?_, d.ex0.trans e, fun a h1 h2 => ?_,
    ⟨fun a u ha hu e => by rw [at_ a (neo a u e)]; exact d.old.old a u ha hu e, fun a ps e => by rw [at_ a (neo a _ e)]; exact d.old.tbl a ps e, fun a h1 h2 => by rw [at_ a (by cases h1; exact neh)]; exact d.old.some a h1 h2⟩,
    by rw [upd_ne neh]; exact d.hF, ⟨by rw [at_ _ neh]; exact hl, fl.mono e⟩, fun q hq => ?_, by rw [List.length_set]; exact d.len, fun j s h => ?_, fun j k h1 h2 => d.sep j k (isOwn_set h1 (by intro _ z; cases z)).2 (isOwn_set h2 (by intro _ z; cases z)).2, fun q hq => (d.tmp q hq).mono e, fun q hq => ?_, d.hnd⟩
  · by_cases z : a = p
    · subst z; rw [upd_same] at h ⊢; exact h
    · rw [upd_ne z] at h ⊢; exact d.sub a o h
  · by_cases z : a = p
    · subst z; rw [upd_same] at h; cases h
    · rw [upd_ne z] at h; exact d.nt a ps h
  · by_cases z : a = p
    · subst z; exact f3
    · rw [upd_ne z] at h1; exact d.new a h1 h2
  · obtain ⟨ps, t1, t2, t3⟩ := d.tabs q hq
    refine ⟨ps, by rw [at_ _ (fun z => by rw [z, hp] at t1; unfold dN at t1; cases t1)]; exact t1, t2, fun pos cv hc => ?_⟩
    obtain ⟨cc, c1, c2⟩ := t3 pos cv hc
    exact ⟨cc, c1, by rw [at_ _ (fun z => f1.notC q.2 (by rw [← z]; exact c2))]; exact c2⟩
  · by_cases ej : i = j
    · subst ej
      rw [List.getElem?_set_self hli] at h
      cases h
      exact ⟨_, hv, .dicT upd_same (fk.mono e)⟩
    · rw [List.getElem?_set_ne ej] at h
      have q := d.slot j s h
      cases s with
      | dead => trivial
      | dat dd => obtain ⟨w, g1, g2⟩ := q; exact ⟨w, g1, g2.mono e⟩
      | own dd =>
        obtain ⟨w, g1, g2, g3, g4⟩ := q
        have n : ow j ≠ p := fun z => ej (d.sep i j ⟨_, hi⟩ ⟨_, h⟩ (ep.trans z.symm))
        exact ⟨w, g1, (ownk g2 g3 n).1, (ownk g2 g3 n).2, g4⟩
  · obtain ⟨a1, a2, a3, a4⟩ := d.hid q hq
    have n : q.1 ≠ p := fun z => a4 i ⟨_, hi⟩ (ep.trans z.symm)
    exact ⟨(ownk a1 a2 n).1, (ownk a1 a2 n).2, a3, fun j hj => a4 j (isOwn_set hj (by intro _ z; cases z)).2⟩
end
end Dl
namespace Dl
open PySem PySem.Spec PyProof.Rows L2
theorem DSF.clear {c : Cf} {B : Ba} {hs : HS} {Γ : Env} {tmp : List (D × V)} {σ : L2.St} {H F : Hp} {ow : Nat → Addr} (d : DSF c B hs Γ tmp σ H F ow) : DSF c B hs [] tmp [] H F ow :=
  ⟨d.sub, d.nt, d.ex0, d.new, d.old, d.hF, d.hH, d.tabs, rfl, fun i s h => by simp at h, fun i j h => by obtain ⟨_, h⟩ := h; simp at h, d.tmp, fun q hq => let ⟨a, b, e, _⟩ := d.hid q hq; ⟨a, b, e, fun i hi => by obtain ⟨_, hi⟩ := hi; simp at hi⟩, d.hnd⟩
theorem DS.clear {c : Cf} {B : Ba} {hs : HS} {Γ : Env} {tmp : List (D × V)} {σ : L2.St} {H : Hp} (d : DS c B hs Γ tmp σ H) : DS c B hs [] tmp [] H := let ⟨F, ow, q⟩ := d; ⟨F, ow, q.clear⟩
/-! ### results -/
inductive Exc where
  | noCol | noPat | notCalm (i : Int)
def XIs (c : Cf) : Exc → Value → Option Addr → Hp → Prop
  | .noCol, cls, dd, _ => cls = .ref c.cNC ∧ dd = none
  | .noPat, cls, dd, _ => cls = .ref c.cNP ∧ dd = none
  | .notCalm i, cls, dd, H => cls = .ref c.cNM ∧ ∃ p, dd = some p ∧ H p = some (.xd [(("column" : Str), .int i)])
inductive Res where
  | nx (Γ : Env) | ret (d : D) | exc (x : Exc) | retO (d : D)
abbrev SDn := Env → HS → Option (Res × HS)
abbrev WX' := Value → Option Addr → L2.St → Hp → Prop
def Post (c : Cf) (B : Ba) (tmp : List (D × V)) (W : WX') (hs' : HS) (E : Ends) : Res → Prop
  | .nx Γ' => ∀ σ' H', DS c B hs' Γ' tmp σ' H' → E.nx σ' H'
  | .ret d => ∀ v H', DS c B hs' [] [(d, v)] [] H' → E.rt v H'
  | .exc x => ∀ cls dd σ' H', DS c B hs' [] [] [] H' → XIs c x cls dd H' → W cls dd σ' H'
  | .retO d => ∀ v H', DS c B hs' [.own d] [] [some v] H' → E.rt v H'
def SndS (c : Cf) (W : WX') (ts : TS) (g : SDn) : Prop := ∀ (B : Ba) (hs : HS) (Γ : Env) (tmp : List (D × V)) (σ : L2.St) (H : Hp), DS c B hs Γ tmp σ H →
  ∀ (r : Res) (hs' : HS), g Γ hs = some (r, hs') → ∀ E : Ends, (HSm hs hs' → Post c B tmp W hs' E r) → ts E σ H
def sNext : SDn := fun Γ hs => some (.nx Γ, hs)
def sSeq (a b : SDn) : SDn := fun Γ hs => (a Γ hs).bind fun r => match r.1 with
  | .nx Γ' => b Γ' r.2
  | q => some (q, r.2)
def sAsg (i : Nat) (f : EDn) : SDn := fun Γ hs => (f Γ hs).map fun r => (.nx (Γ.set i (.dat r.1)), r.2)
def sRet (f : EDn) : SDn := fun Γ hs => (f Γ hs).map fun r => (.ret r.1, r.2)
def sIf (t : BDn) (a b : SDn) : SDn := fun Γ hs => (t Γ hs).bind fun r => if r.1 = true then a Γ r.2 else b Γ r.2
def sG (h : Env → Env) (g : SDn) : SDn := fun Γ hs => g (h Γ) hs
def killE (i : Nat) (Γ : Env) : Env := Γ.set i .dead
def frzE (i : Nat) (Γ : Env) : Env := match Γ[i]? with
  | some (.own d) => Γ.set i (.dat (frzD d))
  | _ => Γ
/-- ghosts: from a state over Γ one over h Γ -/
def Ghost (h : Env → Env) : Prop := ∀ (c : Cf) (B : Ba) (hs : HS) (Γ : Env) (tmp : List (D × V)) (σ : L2.St) (H : Hp), DS c B hs Γ tmp σ H → DS c B hs (h Γ) tmp σ H
theorem gh_kill (i : Nat) : Ghost (killE i) := fun _ _ _ _ _ _ _ ⟨F, ow, d⟩ => ⟨F, ow, d.forget⟩
theorem gh_frz (i : Nat) : Ghost (frzE i) := fun _ _ _ Γ _ _ _ ⟨F, ow, d⟩ => by
  unfold frzE
  split
  · rename_i d0 h
    obtain ⟨F', _, q⟩ := d.freeze h
    exact ⟨F', ow, q⟩
  · exact ⟨F, ow, d⟩
theorem gh_comp {h1 h2 : Env → Env} (a : Ghost h1) (b : Ghost h2) : Ghost (fun Γ => h2 (h1 Γ)) := fun c B hs Γ t σ H d => b c B hs _ t σ H (a c B hs Γ t σ H d)
section
variable {c : Cf} {W : WX'} {te ta tb : TE} {tt : TT} {f f1 f2 : EDn} {t u : TS} {g g1 g2 : SDn} {ft : BDn}
theorem ss_next : SndS c W tNext sNext := by
  intro B hs Γ tmp σ H d r hs' e E p
  cases e
  exact p (HSm.refl hs) σ H d
theorem ss_seq (h1 : SndS c W t g1) (h2 : SndS c W u g2) : SndS c W (tSeq t u) (sSeq g1 g2) := by
  intro B hs Γ tmp σ H d r hs' e E p
  unfold sSeq at e
  obtain ⟨⟨r1, hs1⟩, e1, e⟩ := Option.bind_eq_some_iff.mp e
  refine h1 B hs Γ tmp σ H d r1 hs1 e1 _ fun a1 => ?_
  cases r1 with
  | nx Γ1 =>
    intro σ' H' d'
    exact h2 B hs1 Γ1 tmp σ' H' d' r hs' e E fun a2 => p (a1.trans a2)
  | ret x =>
    cases e
    exact p a1
  | exc x =>
    cases e
    exact p a1
  | retO x =>
    cases e
    exact p a1
theorem ss_asg {i : Nat} (h : Snd c te f) : SndS c W (tAsg te (gName i)) (sAsg i f) := by
  intro B hs Γ tmp σ H d r hs' e E p
  unfold sAsg at e
  obtain ⟨⟨x, hs1⟩, e1, e⟩ := Option.map_eq_some_iff.mp e
  cases e
  refine h B hs Γ tmp σ H d x hs1 e1 _ fun v H1 a1 D1 _ => ?_
  obtain ⟨F, ow, D1⟩ := D1
  exact p a1 _ _ ⟨F, ow, D1.pop.set (D1.tmp (x, v) (by simp))⟩
theorem ss_ret (h : Snd c te f) : SndS c W (tRet te) (sRet f) := by
  intro B hs Γ tmp σ H d r hs' e E p
  unfold sRet at e
  obtain ⟨⟨x, hs1⟩, e1, e⟩ := Option.map_eq_some_iff.mp e
  cases e
  refine h B hs Γ tmp σ H d x hs1 e1 _ fun v H1 a1 D1 _ => ?_
  exact p a1 _ _ (D1.clear.drop (by simp))
theorem ss_retN : SndS c W tRetN (sRet (eC .non)) := by
  intro B hs Γ tmp σ H ⟨F, ow, d⟩ r hs' e E p
  cases e
  exact p (HSm.refl hs) _ _ ⟨F, ow, (d.clear.drop (t2 := []) (by simp)).push .non⟩
theorem ss_if (h : SndT c tt ft) (h1 : SndS c W t g1) (h2 : SndS c W u g2) : SndS c W (tIfS tt t u) (sIf ft g1 g2) := by
  intro B hs Γ tmp σ H d r hs' e E p
  unfold sIf at e
  obtain ⟨⟨b, hs1⟩, e1, e⟩ := Option.bind_eq_some_iff.mp e
  refine h B hs Γ tmp σ H d b hs1 e1 _ fun H1 a1 D1 _ => ?_
  cases b with
  | true =>
    rw [if_pos rfl] at e ⊢
    exact h1 B hs1 Γ tmp σ H1 D1 r hs' e E fun a2 => p (a1.trans a2)
  | false =>
    rw [if_neg Bool.false_ne_true] at e ⊢
    exact h2 B hs1 Γ tmp σ H1 D1 r hs' e E fun a2 => p (a1.trans a2)
theorem ss_gh {h : Env → Env} (hg : Ghost h) (h1 : SndS c W t g) : SndS c W t (sG h g) := fun B hs Γ tmp σ H d r hs' e E p => h1 B hs (h Γ) tmp σ H (hg c B hs Γ tmp σ H d) r hs' e E p
/-! ### tests and values by tests -/
def bOf (f : EDn) : BDn := fun Γ hs => (f Γ hs).bind fun r => match r.1 with
  | .bl b => some (b, r.2)
  | _ => none
def bAnd (a b : BDn) : BDn := fun Γ hs => (a Γ hs).bind fun r => if r.1 = true then b Γ r.2 else some (false, r.2)
def bOr (a b : BDn) : BDn := fun Γ hs => (a Γ hs).bind fun r => if r.1 = true then some (true, r.2) else b Γ r.2
def bNot (a : BDn) : BDn := fun Γ hs => (a Γ hs).map fun r => (!r.1, r.2)
def eB (a : BDn) : EDn := fun Γ hs => (a Γ hs).map fun r => (.bl r.1, r.2)
def eIf (t : BDn) (a b : EDn) : EDn := fun Γ hs => (t Γ hs).bind fun r => if r.1 = true then a Γ r.2 else b Γ r.2
theorem st_val (h : Snd c te f) : SndT c (tB te) (bOf f) := by
  intro B hs Γ tmp σ H d b hs' e Q q
  unfold bOf at e
  obtain ⟨⟨x, hs1⟩, e1, e⟩ := Option.bind_eq_some_iff.mp e
  cases x <;> try (cases e)
  refine h B hs Γ tmp σ H d _ _ e1 _ fun v H1 a1 D1 k1 => ?_
  obtain ⟨F, ow, D1⟩ := D1
  have fv := D1.tmp (.bl b, v) (by simp)
  cases fv
  exact ⟨b, rfl, q H1 a1 ⟨F, ow, D1.pop⟩ k1⟩
theorem st_test (h : Snd c te f) : SndT c (tTest te) (bOf f) := st_val h
variable {tu : TT} {fu : BDn}
theorem st_and (h1 : SndT c tt ft) (h2 : SndT c tu fu) : SndT c (tAnd tt tu) (bAnd ft fu) := by
  intro B hs Γ tmp σ H d b hs' e Q q
  unfold bAnd at e
  obtain ⟨⟨x, hs1⟩, e1, e⟩ := Option.bind_eq_some_iff.mp e
  refine h1 B hs Γ tmp σ H d x hs1 e1 _ fun H1 a1 D1 k1 => ?_
  cases x with
  | true =>
    rw [if_pos rfl] at e ⊢
    refine h2 B hs1 Γ tmp σ H1 D1 b hs' e _ fun H2 a2 D2 k2 => ?_
    rw [a1.ad] at k2
    exact q H2 (a1.trans a2) D2 (k1.trans k2)
  | false =>
    rw [if_neg Bool.false_ne_true] at e ⊢
    cases e
    exact q H1 a1 D1 k1
theorem st_or (h1 : SndT c tt ft) (h2 : SndT c tu fu) : SndT c (tOr tt tu) (bOr ft fu) := by
  intro B hs Γ tmp σ H d b hs' e Q q
  unfold bOr at e
  obtain ⟨⟨x, hs1⟩, e1, e⟩ := Option.bind_eq_some_iff.mp e
  refine h1 B hs Γ tmp σ H d x hs1 e1 _ fun H1 a1 D1 k1 => ?_
  cases x with
  | true =>
    rw [if_pos rfl] at e ⊢
    cases e
    exact q H1 a1 D1 k1
  | false =>
    rw [if_neg Bool.false_ne_true] at e ⊢
    refine h2 B hs1 Γ tmp σ H1 D1 b hs' e _ fun H2 a2 D2 k2 => ?_
    rw [a1.ad] at k2
    exact q H2 (a1.trans a2) D2 (k1.trans k2)
theorem st_not (h1 : SndT c tt ft) : SndT c (tNot tt) (bNot ft) := by
  intro B hs Γ tmp σ H d b hs' e Q q
  unfold bNot at e
  obtain ⟨⟨x, hs1⟩, e1, e⟩ := Option.map_eq_some_iff.mp e
  cases e
  exact h1 B hs Γ tmp σ H d x hs1 e1 _ fun H1 a1 D1 k1 => q H1 a1 D1 k1
theorem snd_andV (h1 : Snd c ta f1) (h2 : Snd c tb f2) : Snd c (tAndV ta tb) (eB (bAnd (bOf f1) (bOf f2))) := by
  intro B hs Γ tmp σ H d b hs' e Q q
  unfold eB bAnd at e
  obtain ⟨⟨x, hs1⟩, e1, e⟩ := Option.map_eq_some_iff.mp e
  obtain ⟨⟨y, hs2⟩, e2, e1⟩ := Option.bind_eq_some_iff.mp e1
  cases e
  refine (st_val h1) B hs Γ tmp σ H d y hs2 e2 _ fun H1 a1 D1 k1 => ?_
  cases y with
  | true =>
    rw [if_pos rfl] at e1 ⊢
    unfold bOf at e1
    obtain ⟨⟨z, hs3⟩, e3, e1⟩ := Option.bind_eq_some_iff.mp e1
    cases z <;> try (cases e1)
    refine h2 B hs2 Γ tmp σ H1 D1 _ _ e3 _ fun v H2 a2 D2 k2 => ?_
    rw [a1.ad] at k2
    exact q v H2 (a1.trans a2) D2 (k1.trans k2)
  | false =>
    rw [if_neg Bool.false_ne_true] at e1 ⊢
    cases e1
    obtain ⟨F, ow, D1⟩ := D1
    exact q _ H1 a1 ⟨F, ow, D1.push (.bl false)⟩ k1
theorem snd_notV (h1 : Snd c ta f1) : Snd c (tNotV ta) (eB (bNot (bOf f1))) := by
  intro B hs Γ tmp σ H d b hs' e Q q
  unfold eB bNot at e
  obtain ⟨⟨x, hs1⟩, e1, e⟩ := Option.map_eq_some_iff.mp e
  obtain ⟨⟨y, hs2⟩, e2, e1⟩ := Option.map_eq_some_iff.mp e1
  cases e
  cases e1
  refine (st_val h1) B hs Γ tmp σ H d y hs2 e2 _ fun H1 a1 D1 k1 => ?_
  obtain ⟨F, ow, D1⟩ := D1
  exact q _ H1 a1 ⟨F, ow, D1.push (.bl _)⟩ k1
theorem snd_if (h : SndT c tt ft) (h1 : Snd c ta f1) (h2 : Snd c tb f2) : Snd c (tIf tt ta tb) (eIf ft f1 f2) := by
  intro B hs Γ tmp σ H d x hs' e Q q
  unfold eIf at e
  obtain ⟨⟨b, hs1⟩, e1, e⟩ := Option.bind_eq_some_iff.mp e
  refine h B hs Γ tmp σ H d b hs1 e1 _ fun H1 a1 D1 k1 => ?_
  cases b with
  | true =>
    rw [if_pos rfl] at e ⊢
    refine h1 B hs1 Γ tmp σ H1 D1 x hs' e _ fun v H2 a2 D2 k2 => ?_
    rw [a1.ad] at k2
    exact q v H2 (a1.trans a2) D2 (k1.trans k2)
  | false =>
    rw [if_neg Bool.false_ne_true] at e ⊢
    refine h2 B hs1 Γ tmp σ H1 D1 x hs' e _ fun v H2 a2 D2 k2 => ?_
    rw [a1.ad] at k2
    exact q v H2 (a1.trans a2) D2 (k1.trans k2)
/-- two comparisons in a chain -/
def eChain (o1 o2 : D → D → Option D) (fa fb fc : EDn) : EDn := fun Γ hs => (fa Γ hs).bind fun ra => (fb Γ ra.2).bind fun rb => (o1 ra.1 rb.1).bind fun z => match z with
  | .bl true => (fc Γ rb.2).bind fun rc => (o2 rb.1 rc.1).map fun w => (w, rc.2)
  | .bl false => some (.bl false, rb.2)
  | _ => none
variable {tc : TE} {fa fb fc : EDn}
theorem snd_chain {o1 o2 : D → D → Option D} (ha : Snd c ta fa) (hb : Snd c tb fb) (hc : Snd c tc fc) : Snd c (tChain (rD c o1) (rD c o2) ta tb tc) (eChain o1 o2 fa fb fc) := by
  intro B hs Γ tmp σ H D0 d hs' e Q q
  unfold eChain at e
  obtain ⟨⟨d1, h1⟩, e1, e⟩ := Option.bind_eq_some_iff.mp e
  obtain ⟨⟨d2, h2⟩, e2, e⟩ := Option.bind_eq_some_iff.mp e
  obtain ⟨z, e3, e⟩ := Option.bind_eq_some_iff.mp e
  refine ha B hs Γ tmp σ H D0 d1 h1 e1 _ fun v1 H1 a1 D1 k1 => ?_
  refine hb B h1 Γ _ σ H1 D1 d2 h2 e2 _ fun v2 H2 a2 D2 k2 => ?_
  rw [a1.ad] at k2
  obtain ⟨F, ow, D2⟩ := D2
  refine ⟨F, d1, d2, z, D2.sub, D2.nt, D2.tmp (d1, v1) (by simp), D2.tmp (d2, v2) (by simp), e3, fun v H' F' n fv => ?_⟩
  have D3 := D2.step n
  cases fv <;> try (cases e)
  rename_i b
  refine ⟨b, rfl, ?_⟩
  cases b with
  | true =>
    rw [if_pos rfl]
    obtain ⟨⟨d4, h4⟩, e4, e⟩ := Option.bind_eq_some_iff.mp e
    obtain ⟨w, e5, e⟩ := Option.map_eq_some_iff.mp e
    cases e
    refine hc B h2 Γ _ σ H' ⟨F', ow, D3⟩ d4 _ e4 _ fun v4 H4 a4 D4 k4 => ?_
    rw [(a1.trans a2).ad] at k4
    obtain ⟨F4, ow4, D4⟩ := D4
    refine ⟨F4, d2, d4, d, D4.sub, D4.nt, D4.tmp (d2, v2) (by simp), D4.tmp (d4, v4) (by simp), e5, fun v5 H5 F5 n5 fv5 => ?_⟩
    exact q v5 H5 ((a1.trans a2).trans a4) ⟨F5, ow4, ((D4.step n5).push fv5).drop (by intro p hp; simp at hp ⊢; rcases hp with h | h <;> simp [h])⟩ (k1.trans (k2.trans (n.he.mono.trans (k4.trans n5.he.mono))))
  | false =>
    rw [if_neg Bool.false_ne_true]
    cases e
    exact q _ H' (a1.trans a2) ⟨F', ow, (D3.push (.bl false)).drop (by intro p hp; simp at hp ⊢; rcases hp with h | h <;> simp [h])⟩ (k1.trans (k2.trans n.he.mono))
/-! ### displays -/
variable {tas : TA} {l : LDn}
def LLen (n : Nat) (l : LDn) : Prop := ∀ Γ hs r, l Γ hs = some r → r.1.length = n
theorem llen_nil : LLen 0 lNil := fun Γ hs r e => by cases e; rfl
theorem llen_cons {n : Nat} {f : EDn} {l : LDn} (h : LLen n l) : LLen (n + 1) (lCons f l) := fun Γ hs r e => by
  unfold lCons at e
  obtain ⟨⟨d1, h1⟩, e1, e⟩ := Option.bind_eq_some_iff.mp e
  obtain ⟨⟨d2, h2⟩, e2, e⟩ := Option.map_eq_some_iff.mp e
  cases e
  simp [h _ _ _ e2]
def eTup (l : LDn) : EDn := fun Γ hs => (l Γ hs).map fun r => (.tup r.1, r.2)
def eLst (l : LDn) : EDn := fun Γ hs => (l Γ hs).map fun r => (.lst r.1, r.2)
theorem snd_tup {n : Nat} (h : SndA c tas l) (hn : LLen n l) (hz : n ≤ 1000) : Snd c (tTup tas) (eTup l) := by
  intro B hs Γ tmp σ H D0 d hs' e Q q
  unfold eTup at e
  obtain ⟨⟨ds, h1⟩, e1, e⟩ := Option.map_eq_some_iff.mp e
  cases e
  refine h B hs Γ tmp σ H D0 ds _ e1 _ fun vs H1 a1 ln D1 k1 => ⟨?_, fun p hp => ?_⟩
  · have := hn _ _ _ e1
    rw [ln, this]
    exact Nat.le_trans hz (by decide)
  · obtain ⟨F, ow, D1⟩ := D1
    have n := Nx.lay (c := c) (ad := none) (o := .tup vs) D1.sub D1.nt hp (by intro ps z; cases z)
    have fv : FD c (upd F p (.tup vs)) (.ref p) (.tup ds) := .tup (.inl (.inl upd_same)) ((fds_zip ln (fun p hp => D1.tmp p (List.mem_append_left _ hp))).mono n.fe)
    exact q _ _ a1 ⟨_, ow, ((D1.step n).push fv).drop (by intro p hp; simp at hp ⊢; rcases hp with h | h <;> simp [h])⟩ (k1.trans n.he.mono)
theorem snd_lst {n : Nat} (h : SndA c tas l) (hn : LLen n l) (hz : n ≤ 1000) : Snd c (tLst tas) (eLst l) := by
  intro B hs Γ tmp σ H D0 d hs' e Q q
  unfold eLst at e
  obtain ⟨⟨ds, h1⟩, e1, e⟩ := Option.map_eq_some_iff.mp e
  cases e
  refine h B hs Γ tmp σ H D0 ds _ e1 _ fun vs H1 a1 ln D1 k1 => ⟨?_, fun p hp => ?_⟩
  · have := hn _ _ _ e1
    rw [ln, this]
    exact Nat.le_trans hz (by decide)
  · obtain ⟨F, ow, D1⟩ := D1
    have n := Nx.lay (c := c) (ad := none) (o := .lst vs) D1.sub D1.nt hp (by intro ps z; cases z)
    have fv : FD c (upd F p (.lst vs)) (.ref p) (.lst ds) := .lst upd_same ((fds_zip ln (fun p hp => D1.tmp p (List.mem_append_left _ hp))).mono n.fe)
    exact q _ _ a1 ⟨_, ow, ((D1.step n).push fv).drop (by intro p hp; simp at hp ⊢; rcases hp with h | h <;> simp [h])⟩ (k1.trans n.he.mono)
/-- a scalar read while slot i is frozen for the moment -/
def scalarD : D → Bool
  | .non | .bl _ | .int _ | .str _ => true
  | _ => false
def ePeek (i : Nat) (f : EDn) : EDn := fun Γ hs => (f (frzE i Γ) hs).bind fun r => if scalarD r.1 = true then some r else none
theorem scalar_FD {F F' : Hp} {v : V} {d : D} (h : scalarD d = true) (f : FD c F v d) : FD c F' v d := by
  cases f <;> first | exact .non | exact .bl _ | exact .int _ | exact .str _ | cases h
theorem DSF.back {B : Ba} {hs hs' : HS} {Γ : Env} {tmp : List (D × V)} {σ : L2.St} {H H' F : Hp} {ow : Nat → Addr} (d : DSF c B hs Γ tmp σ H F ow) (k : Kp (some hs.ad) H H') (had : HSm hs hs') (tabs : LamX.Tabs c.T H')
    (hh : H' hs'.ad = some (.dK (handK hs'))) : DSF c B hs' Γ tmp σ H' F ow :=
  d.call (F' := F) (H' := H') ⟨Ex.refl F, fun a o e => k.old a o (fun z => by cases z; rw [d.hF] at e; cases e) (fun ps z => d.nt a ps (by rw [e, z])) (d.sub a o e), k, fun a h1 h2 => absurd h2 h1, d.nt, fun _ => tabs⟩ had.ad (by rw [had.ad]; exact d.hF)
    ⟨hh, by rw [had.la, had.cells]; exact d.hH.2⟩
theorem st_peek {i : Nat} (h : Snd c te f) : Snd c te (ePeek i f) := by
  intro B hs Γ tmp σ H D0 d hs' e Q q
  unfold ePeek at e
  obtain ⟨⟨d1, h1⟩, e1, e⟩ := Option.bind_eq_some_iff.mp e
  split at e
  · rename_i hsc
    cases e
    obtain ⟨F, ow, D0⟩ := D0
    refine h B hs (frzE i Γ) tmp σ H (gh_frz i c B hs Γ tmp σ H ⟨F, ow, D0⟩) _ _ e1 _ fun v H1 a1 D1 k1 => ?_
    obtain ⟨F1, ow1, D1⟩ := D1
    exact q v H1 a1 ⟨F, ow, (D0.back k1 a1 D1.tabs D1.hH.1).push (scalar_FD hsc (D1.tmp (d, v) (by simp)))⟩ k1
  · cases e
end
end Dl
namespace Dl
open PySem PySem.Spec PyProof.Rows L2
section
variable {c : Cf} {W : WX'} {te ta tb ti : TE} {tt : TT} {f f1 f2 fk : EDn} {t u : TS} {g g1 g2 : SDn} {ft : BDn} {tas : TA} {l : LDn}
/-! ### what one owns -/
def sOwn (i : Nat) (d : D) : SDn := fun Γ hs => some (.nx (Γ.set i (.own d)), hs)
/-- x = [] -/
theorem ss_newL {i : Nat} : SndS c W (tAsg (tLst tNil) (gName i)) (sOwn i (.lst [])) := by
  intro B hs Γ tmp σ H ⟨F, ow, d⟩ r hs' e E p
  cases e
  refine ⟨Nat.zero_le _, fun q hq => ?_⟩
  exact p (HSm.refl hs) _ _ ⟨F, _, d.own hq (.lst upd_same .nil)⟩
def tDNew (c : Cf) : TE := fun _ H Q => ∀ p, H p = none → Q (.ref p) (upd H p (dN c p []))
/-- x = {} -/
theorem ss_newD {i : Nat} : SndS c W (tAsg (tDNew c) (gName i)) (sOwn i (.dic false [])) := by
  intro B hs Γ tmp σ H ⟨F, ow, d⟩ r hs' e E p
  cases e
  intro q hq
  exact p (HSm.refl hs) _ _ ⟨F, _, d.own hq (.dic upd_same .nil)⟩
/-- x, y = e1, e2 -/
def sPar (i j : Nat) (f1 f2 : EDn) : SDn := fun Γ hs => (f1 Γ hs).bind fun r1 => (f2 Γ r1.2).map fun r2 => (.nx ((Γ.set i (.dat r1.1)).set j (.dat r2.1)), r2.2)
theorem ss_par {i j : Nat} (h1 : Snd c ta f1) (h2 : Snd c tb f2) : SndS c W (tPar i j (tCons ta (tCons tb tNil))) (sPar i j f1 f2) := by
  intro B hs Γ tmp σ H D0 r hs' e E p
  unfold sPar at e
  obtain ⟨⟨x, hs1⟩, e1, e⟩ := Option.bind_eq_some_iff.mp e
  obtain ⟨⟨y, hs2⟩, e2, e⟩ := Option.map_eq_some_iff.mp e
  cases e
  refine h1 B hs Γ tmp σ H D0 x hs1 e1 _ fun v H1 a1 D1 _ => ?_
  refine h2 B hs1 Γ _ σ H1 D1 y hs2 e2 _ fun w H2 a2 D2 _ => ?_
  obtain ⟨F, ow, D2⟩ := D2
  exact ⟨v, w, rfl, p (a1.trans a2) _ _ ⟨F, ow, ((D2.set (i := i) (D2.tmp (x, v) (by simp))).set (i := j) (D2.tmp (y, w) (by simp))).drop (by intro p hp; simp [hp])⟩⟩
def sParO (i j : Nat) (f1 : EDn) (d : D) : SDn := fun Γ hs => (f1 Γ hs).map fun r1 => (.nx ((Γ.set i (.dat r1.1)).set j (.own d)), r1.2)
theorem ss_parL {i j : Nat} (h1 : Snd c ta f1) : SndS c W (tPar i j (tCons ta (tCons (tLst tNil) tNil))) (sParO i j f1 (.lst [])) := by
  intro B hs Γ tmp σ H D0 r hs' e E p
  unfold sParO at e
  obtain ⟨⟨x, hs1⟩, e1, e⟩ := Option.map_eq_some_iff.mp e
  cases e
  refine h1 B hs Γ tmp σ H D0 x _ e1 _ fun v H1 a1 D1 _ => ?_
  obtain ⟨F, ow, D2⟩ := D1
  refine ⟨Nat.zero_le _, fun q hq => ⟨v, .ref q, rfl, ?_⟩⟩
  exact p a1 _ _ ⟨F, _, ((D2.set (i := i) (D2.tmp (x, v) (by simp))).drop (by intro p hp; simp [hp])).own hq (.lst upd_same .nil)⟩
theorem ss_parD {i j : Nat} (h1 : Snd c ta f1) : SndS c W (tPar i j (tCons ta (tCons (tDNew c) tNil))) (sParO i j f1 (.dic false [])) := by
  intro B hs Γ tmp σ H D0 r hs' e E p
  unfold sParO at e
  obtain ⟨⟨x, hs1⟩, e1, e⟩ := Option.map_eq_some_iff.mp e
  cases e
  refine h1 B hs Γ tmp σ H D0 x _ e1 _ fun v H1 a1 D1 _ => ?_
  obtain ⟨F, ow, D2⟩ := D1
  intro q hq
  exact ⟨v, .ref q, rfl, p a1 _ _ ⟨F, _, ((D2.set (i := i) (D2.tmp (x, v) (by simp))).drop (by intro p hp; simp [hp])).own hq (.dic upd_same .nil)⟩⟩
def sPar2 (i j : Nat) : SDn := fun Γ hs => some (.nx ((Γ.set i (.own (.dic false []))).set j (.own (.dic false []))), hs)
theorem ss_par2 {i j : Nat} : SndS c W (tPar i j (tCons (tDNew c) (tCons (tDNew c) tNil))) (sPar2 i j) := by
  intro B hs Γ tmp σ H ⟨F, ow, d⟩ r hs' e E p
  cases e
  intro q hq q2 hq2
  refine ⟨_, _, rfl, ?_⟩
  exact p (HSm.refl hs) _ _ ⟨F, _, (d.own hq (.dic upd_same .nil)).own hq2 (.dic upd_same .nil)⟩
/-- x.append(e) -/
def sApp (i : Nat) (f : EDn) : SDn := fun Γ hs => (f Γ hs).bind fun r => match Γ[i]? with
  | some (.own (.lst ds)) => if ds.length < 100000 then some (.nx (Γ.set i (.own (.lst (ds ++ [r.1])))), r.2) else none
  | _ => none
theorem ss_app {i : Nat} (h : Snd c te f) : SndS c W (tDrop (tBM c.K "list" rAppend (tVar i) (tCons te tNil))) (sApp i f) := by
  intro B hs Γ tmp σ H D0 r hs' e E p
  unfold sApp at e
  obtain ⟨⟨x, hs1⟩, e1, e⟩ := Option.bind_eq_some_iff.mp e
  split at e <;> try (cases e)
  rename_i ds hi
  split at e <;> try (cases e)
  rename_i hz
  obtain ⟨F0, ow0, d0⟩ := id D0
  obtain ⟨v, hv, o, _, _⟩ := d0.slot i _ hi
  generalize ow0 i = p0 at o
  cases o with
  | @lst p1 xs _ hp hx =>
  refine ⟨.ref p0, hv, Or.inl ⟨rfl, xs, .inl (.inl hp)⟩, ?_⟩
  refine h B hs Γ tmp σ H D0 x _ e1 _ fun w H1 a1 D1 _ => ?_
  obtain ⟨F, ow, d⟩ := D1
  obtain ⟨v', hv', o', _, _⟩ := d.slot i _ hi
  rw [hv] at hv'; cases hv'
  generalize hq : ow i = p1 at o'
  cases o' with
  | @lst _ xs' _ hp' hx' =>
  refine ⟨p0, xs', w, rfl, rfl, hp', ?_, ?_⟩
  · rw [hx'.length]; exact Nat.lt_of_lt_of_le hz (by decide)
  · subst hq
    refine p a1 _ _ ⟨F, ow, (d.mut hi hv (by intro ps z; cases z) (.lst upd_same (hx'.append (.cons (d.tmp (x, w) (by simp)) .nil)))).pop⟩
/-- x.extend(e) -/
def sExt (i : Nat) (f : EDn) : SDn := fun Γ hs => (f Γ hs).bind fun r => match Γ[i]?, r.1 with
  | some (.own (.lst ds)), .lst es => if ds.length + es.length < 100000 then some (.nx (Γ.set i (.own (.lst (ds ++ es)))), r.2) else none
  | _, _ => none
theorem ss_ext {i : Nat} (h : Snd c te f) : SndS c W (tDrop (tBM c.K "list" rExtend (tVar i) (tCons te tNil))) (sExt i f) := by
  intro B hs Γ tmp σ H D0 r hs' e E p
  unfold sExt at e
  obtain ⟨⟨x, hs1⟩, e1, e⟩ := Option.bind_eq_some_iff.mp e
  split at e <;> try (cases e)
  rename_i ds es hi hx1
  split at e <;> try (cases e)
  rename_i hz
  have hx1 : x = .lst es := hx1
  subst hx1
  obtain ⟨F0, ow0, d0⟩ := id D0
  obtain ⟨v, hv, o, _, _⟩ := d0.slot i _ hi
  generalize ow0 i = p0 at o
  cases o with
  | @lst p1 xs _ hp hx =>
  refine ⟨.ref p0, hv, Or.inl ⟨rfl, xs, .inl (.inl hp)⟩, ?_⟩
  refine h B hs Γ tmp σ H D0 _ _ e1 _ fun w H1 a1 D1 _ => ?_
  obtain ⟨F, ow, d⟩ := D1
  obtain ⟨v', hv', o', _, _⟩ := d.slot i _ hi
  rw [hv] at hv'; cases hv'
  generalize hq : ow i = p1 at o'
  cases o' with
  | @lst _ xs' _ hp' hx' =>
  have fw := d.tmp (.lst es, w) (by simp)
  cases fw with
  | @lst b zs _ hb hzs =>
  refine ⟨p0, b, xs', zs, rfl, rfl, hp', d.sub _ _ hb, ?_, ?_⟩
  · rw [hx'.length, hzs.length]; exact Nat.le_trans (Nat.le_of_lt hz) (by decide)
  · subst hq
    refine p a1 _ _ ⟨F, ow, (d.mut hi hv (by intro ps z; cases z) (.lst upd_same (hx'.append hzs))).pop⟩
/-! ### dict stores -/
def putD (kvs : List (D × D)) (k d : D) : List (D × D) :=
  if kvs.any (fun p => decide (toKey p.1 = toKey k)) then kvs.map (fun p => if toKey p.1 = toKey k then (p.1, d) else p) else kvs ++ [(k, d)]
/-- o[i] = v, o a dict of tuple keys -/
def rPutN (c : Cf) : TSet := fun o i v H Q => ∃ p es k a, o = .ref p ∧ i = .ref a ∧ H p = some (dN c p es) ∧ (∃ F kvs, Ex F H ∧ FD c F (.ref a) k ∧ FDk c F es kvs) ∧ kOk 8 k = true ∧ es.length < 100000 ∧
  Q (upd H p (dN c p (if es.any (fun x => decide (x.1 = toKey k)) then es.map (fun x => if x.1 = toKey k then (x.1, x.2.1, v) else x) else es ++ [(toKey k, a, v)])))
theorem FDk.length {F : Hp} : ∀ {es : List (NestedKey × Addr × V)} {kvs : List (D × D)}, FDk c F es kvs → es.length = kvs.length
  | _, _, .nil => rfl
  | _, _, .cons _ _ _ _ t => by rw [List.length_cons, List.length_cons, t.length]
theorem FDk.any {F : Hp} {k : NestedKey} : ∀ {es : List (NestedKey × Addr × V)} {kvs : List (D × D)}, FDk c F es kvs → es.any (fun x => decide (x.1 = k)) = kvs.any (fun p => decide (toKey p.1 = k))
  | _, _, .nil => rfl
  | _, _, .cons _ h _ _ t => by subst h; simp only [List.any_cons, t.any]
theorem FDk.map {F : Hp} {k : NestedKey} {v : V} {d : D} (fv : FD c F v d) : ∀ {es : List (NestedKey × Addr × V)} {kvs : List (D × D)}, FDk c F es kvs →
    FDk c F (es.map (fun x => if x.1 = k then (x.1, x.2.1, v) else x)) (kvs.map (fun p => if toKey p.1 = k then (p.1, d) else p))
  | _, _, .nil => .nil
  | _, _, .cons h0 h h1 h2 t => by
    subst h
    rw [List.map_cons, List.map_cons]
    split
    · exact .cons h0 rfl h1 fv (FDk.map fv t)
    · exact .cons h0 rfl h1 h2 (FDk.map fv t)
theorem FDk.snoc {F : Hp} {k d : D} {a : Addr} {v : V} (h0 : kOk 8 k = true) (fk : FD c F (.ref a) k) (fv : FD c F v d) : ∀ {es : List (NestedKey × Addr × V)} {kvs : List (D × D)}, FDk c F es kvs → FDk c F (es ++ [(toKey k, a, v)]) (kvs ++ [(k, d)])
  | _, _, .nil => .cons h0 rfl fk fv .nil
  | _, _, .cons h0' h h1 h2 t => .cons h0' h h1 h2 (FDk.snoc h0 fk fv t)
theorem FDk.put {F : Hp} {k d : D} {a : Addr} {v : V} (h0 : kOk 8 k = true) (fk : FD c F (.ref a) k) (fv : FD c F v d) {es : List (NestedKey × Addr × V)} {kvs : List (D × D)} (h : FDk c F es kvs) :
    FDk c F (if es.any (fun x => decide (x.1 = toKey k)) then es.map (fun x => if x.1 = toKey k then (x.1, x.2.1, v) else x) else es ++ [(toKey k, a, v)]) (putD kvs k d) := by
  unfold putD
  rw [h.any]
  split
  · exact h.map fv
  · exact h.snoc h0 fk fv
/-- a key is a tuple -/
def sPut (i : Nat) (fk fv : EDn) : SDn := fun Γ hs => (fv Γ hs).bind fun rv => (fk Γ rv.2).bind fun rk => match Γ[i]?, rk.1 with
  | some (.own (.dic z kvs)), .tup ks => if kOk 8 (.tup ks) = true ∧ kvs.length < 100000 then some (.nx (Γ.set i (.own (.dic z (putD kvs (.tup ks) rv.1)))), rk.2) else none
  | _, _ => none
theorem ss_put {i : Nat} (hv : Snd c te f) (hk : Snd c ti fk) : SndS c W (tAsg te (gSub (tVar i) ti (rPutN c))) (sPut i fk f) := by
  intro B hs Γ tmp σ H D0 r hs' e E p
  unfold sPut at e
  obtain ⟨⟨x, hs1⟩, e1, e⟩ := Option.bind_eq_some_iff.mp e
  obtain ⟨⟨y, hs2⟩, e2, e⟩ := Option.bind_eq_some_iff.mp e
  split at e <;> try (cases e)
  rename_i zb kvs ks hi hy
  have hy : y = .tup ks := hy
  subst hy
  by_cases hz : kOk 8 (.tup ks) = true ∧ kvs.length < 100000
  rotate_left
  · simp only [if_neg hz] at e
    cases e
  simp only [if_pos hz] at e
  cases e
  refine hv B hs Γ tmp σ H D0 x hs1 e1 _ fun w H1 a1 D1 _ => ?_
  obtain ⟨F0, ow0, d0⟩ := id D1
  obtain ⟨v, hv', o, _, _⟩ := d0.slot i _ hi
  refine ⟨v, hv', ?_⟩
  refine hk B hs1 Γ _ σ H1 D1 _ _ e2 _ fun wk H2 a2 D2 _ => ?_
  obtain ⟨F, ow, d⟩ := D2
  obtain ⟨v', hv2, o', _, _⟩ := d.slot i _ hi
  rw [hv'] at hv2; cases hv2
  generalize hq : ow i = p1 at o'
  cases o' with
  | @dic _ _ es _ hp' hx' =>
  have fk' := d.tmp (.tup ks, wk) (by simp)
  have fv' := d.tmp (x, w) (by simp)
  cases id fk' with
  | @tup a xs _ hs1' hs2' =>
  refine ⟨p1, es, .tup ks, a, rfl, rfl, hp', ⟨F, kvs, d.sub, fk', hx'⟩, hz.1, by rw [hx'.length]; exact hz.2, ?_⟩
  subst hq
  exact p (a1.trans a2) _ _ ⟨F, ow, (d.mut hi hv' (by intro ps z; unfold dN at z; cases z) (.dic upd_same (hx'.put hz.1 fk' fv'))).drop (by intro p hp; simp [hp])⟩
/-- a dict of one's own, frozen for good -/
def tFrzS (c : Cf) (i : Nat) (t : TS) : TS := fun D σ H => ∃ p es, σ[i]? = some (some (.ref p)) ∧ H p = some (dN c p es) ∧ ∀ od, t D σ (upd H p (.frz od (dN c p es)))
theorem ps_frz {X : Cx} {i : Nat} {st : Stmt} {t : TS} (h : PS X st t) : PS X st (tFrzS c i t) := by
  refine ⟨fun pins s σ H D I hh => ?_⟩
  obtain ⟨p, es, hv, hp, q⟩ := hh
  obtain ⟨od, I'⟩ := I.lock hp (by unfold dN; trivial)
  exact h.run pins s σ _ D I' (q od)
theorem pss_frz {X : Cx} {i : Nat} {st : List Stmt} {t : TS} (h : PSs X st t) : PSs X st (tFrzS c i t) := by
  refine ⟨fun pins s σ H D I hh => ?_⟩
  obtain ⟨p, es, hv, hp, q⟩ := hh
  obtain ⟨od, I'⟩ := I.lock hp (by unfold dN; trivial)
  exact h.run pins s σ _ D I' (q od)
def sFrz (i : Nat) (g : SDn) : SDn := fun Γ hs => match Γ[i]? with
  | some (.own (.dic _ kvs)) => g (Γ.set i (.dat (.dic true kvs))) hs
  | _ => none
theorem ss_frz {i : Nat} (h : SndS c W t g) : SndS c W (tFrzS c i t) (sFrz i g) := by
  intro B hs Γ tmp σ H D0 r hs' e E p
  unfold sFrz at e
  split at e <;> try (cases e; done)
  rename_i z kvs hi
  obtain ⟨F, ow, d⟩ := D0
  obtain ⟨v, hv, o, _, _⟩ := d.slot i _ hi
  generalize hq : ow i = p1 at o
  cases o with
  | @dic _ _ es _ hp hx =>
  exact ⟨p1, es, hv, hp, fun od => h B hs _ tmp σ _ ⟨_, ow, d.freezeZ hi hv hp hx⟩ r hs' e E p⟩
def tFrzE (c : Cf) (te : TE) : TE := fun σ H Q => te σ H fun v H1 => ∃ p es, v = .ref p ∧ H1 p = some (dN c p es) ∧ ∀ od, Q v (upd H1 p (.frz od (dN c p es)))
theorem pe_frz {X : Cx} {e : Expr} {te : TE} (h : PE X e te) : PE X e (tFrzE c te) := by
  refine ⟨fun pins s σ H Q I hh => ?_⟩
  refine thn (h.run pins s σ H _ I hh) fun u s1 ⟨x, H1, I1, r1, p, es, ex, hp, q⟩ => ?_
  obtain ⟨od, I'⟩ := I1.lock hp (by unfold dN; trivial)
  exact ⟨x, _, I', r1, q od⟩
/-! ### targets -/
abbrev GDn := D → Env → Option Env
def SndG (c : Cf) (tg : TG) (js : List Nat) (g : GDn) : Prop := ∀ (B : Ba) (hs : HS) (Γ : Env) (tmp : List (D × V)) (σ : L2.St) (H : Hp) (v : V) (d : D), DS c B hs Γ ((d, v) :: tmp) σ H →
  ∀ Γ', g d Γ = some Γ' → ∀ Q : L2.St → Hp → Prop, (∀ σ', σ'.length = σ.length → (∀ k, k ∉ js → σ'[k]? = σ[k]?) → (∀ k, k ∉ js → Γ'[k]? = Γ[k]?) → Γ'.length = Γ.length → DS c B hs Γ' ((d, v) :: tmp) σ' H → Q σ' H) → tg v σ H Q
def gd1 (i : Nat) : GDn := fun d Γ => some (Γ.set i (.dat d))
def gd2 (i j : Nat) : GDn := fun d Γ => match d with
  | .tup [x, y] => some ((Γ.set i (.dat x)).set j (.dat y))
  | _ => none
theorem sg_name {i : Nat} : SndG c (gName i) [i] (gd1 i) := by
  intro B hs Γ tmp σ H v d ⟨F, ow, D0⟩ Γ' e Q q
  cases e
  exact q _ (by simp) (fun k hk => by rw [List.getElem?_set_ne]; simp at hk; omega) (fun k hk => by rw [List.getElem?_set_ne]; simp at hk; omega) (by simp) ⟨F, ow, D0.set (D0.tmp (d, v) (by simp))⟩
theorem sg_two {i j : Nat} : SndG c (gTup c.K 2 (gCons (gName i) (gCons (gName j) gNil))) [i, j] (gd2 i j) := by
  intro B hs Γ tmp σ H v d ⟨F, ow, D0⟩ Γ' e Q q
  unfold gd2 at e
  split at e <;> try (cases e)
  rename_i x y
  have fd := D0.tmp (.tup [x, y], v) (by simp)
  cases fd with
  | @tup a xs _ h1 h2 =>
  cases h2 with
  | @cons v1 _ vs _ f1 h2 =>
  cases h2 with
  | @cons v2 _ vs2 _ f2 h2 =>
  cases h2
  refine ⟨a, _, rfl, D0.sub.sqT h1, rfl, v1, _, rfl, v2, _, rfl, rfl, ?_⟩
  exact q _ (by simp) (fun k hk => by simp at hk; rw [List.getElem?_set_ne (by omega), List.getElem?_set_ne (by omega)]) (fun k hk => by simp at hk; rw [List.getElem?_set_ne (by omega), List.getElem?_set_ne (by omega)]) (by simp) ⟨F, ow, (D0.set f1).set f2⟩
/-! ### what is walked -/
def Yields (c : Cf) (J : It) (items : List D) (ex : List (D × V)) : Prop := ∀ F H, Ex F H → (∀ a ps, F a ≠ some (.tbl ps)) → (∀ p ∈ ex, FD c F p.2 p.1) →
  (∀ i d, items[i]? = some d → J.go i H ∧ ∀ x H', J.yld i H x H' → ∃ F', Nx c none F H F' H' ∧ FD c F' x d) ∧ J.stop items.length H
def SndI (c : Cf) (wi : TI) (src : LDn) : Prop := ∀ (B : Ba) (hs : HS) (Γ : Env) (tmp : List (D × V)) (σ : L2.St) (H : Hp), DS c B hs Γ tmp σ H →
  ∀ (items : List D) (hs' : HS), src Γ hs = some (items, hs') → ∀ R : It → Hp → Prop, (∀ J H' ex, HSm hs hs' → DS c B hs' Γ (ex ++ tmp) σ H' → Kp (some hs.ad) H H' → Yields c J items ex → R J H') → wi σ H R
def lItems (f : EDn) : LDn := fun Γ hs => (f Γ hs).bind fun r => match r.1 with
  | .lst ds => some (ds, r.2)
  | .tup ds => some (ds, r.2)
  | _ => none
def lItemsL (f : EDn) : LDn := fun Γ hs => (f Γ hs).bind fun r => match r.1 with
  | .lst ds => some (ds, r.2)
  | _ => none
def lItemsT (f : EDn) : LDn := fun Γ hs => (f Γ hs).bind fun r => (tupOf r.1).map fun ds => (ds, r.2)
theorem si_list (h : Snd c te f) : SndI c (iList c.K te) (lItemsL f) := by
  intro B hs Γ tmp σ H D0 items hs' e R q
  unfold lItemsL at e
  obtain ⟨⟨x, hs1⟩, e1, e⟩ := Option.bind_eq_some_iff.mp e
  split at e <;> try (cases e)
  rename_i ds hx
  have hx : x = .lst items := hx
  subst hx
  refine h B hs Γ tmp σ H D0 _ _ e1 _ fun v H1 a1 D1 k1 => ?_
  obtain ⟨F1, ow1, d1⟩ := id D1
  have fv := d1.tmp (.lst items, v) (by simp)
  cases fv with
  | @lst a xs _ ha hxs =>
  refine ⟨a, rfl, ⟨xs, .inl (.inl (d1.sub _ _ ha))⟩, q _ _ [(.lst items, .ref a)] a1 D1 k1 ?_⟩
  intro F H' sub nt hex
  have fv := hex (.lst items, .ref a) (by simp)
  cases fv with
  | @lst _ xs2 _ ha2 hxs2 =>
  have sq : SqL c.K H' a xs2 := .inl (.inl (sub _ _ ha2))
  refine ⟨fun i d hi => ?_, ⟨xs2, sq, by rw [hxs2.length]; exact Nat.le_refl _⟩⟩
  obtain ⟨x, h1, h2⟩ := hxs2.get hi
  refine ⟨⟨xs2, x, sq, h1⟩, fun y H2 hy => ?_⟩
  obtain ⟨rfl, hy⟩ := hy
  have := hy xs2 sq
  rw [h1] at this; cases this
  exact ⟨F, Nx.stay sub nt (Ex.refl _), h2⟩
theorem si_tup (h : Snd c te f) : SndI c (iTup c.K te) (lItemsT f) := by
  intro B hs Γ tmp σ H D0 items hs' e R q
  unfold lItemsT at e
  obtain ⟨⟨x, hs1⟩, e1, e⟩ := Option.bind_eq_some_iff.mp e
  obtain ⟨ds, hx, e⟩ := Option.map_eq_some_iff.mp e
  injection e with e2 e3
  have e2 : ds = items := e2
  have e3 : hs1 = hs' := e3
  have hx : tupOf x = some ds := hx
  subst e2 e3
  refine h B hs Γ tmp σ H D0 _ _ e1 _ fun v H1 a1 D1 k1 => ?_
  obtain ⟨F1, ow1, d1⟩ := id D1
  obtain ⟨a, xs, rfl, ha, hxs⟩ := (d1.tmp (x, v) (by simp)).seqT hx
  refine ⟨a, rfl, ⟨xs, d1.sub.sqT ha⟩, q _ _ [(x, .ref a)] a1 D1 k1 ?_⟩
  intro F H' sub nt hex
  obtain ⟨_, xs2, e4, ha2, hxs2⟩ := (hex (x, .ref a) (by simp)).seqT hx
  injection e4 with e4
  subst e4
  have sq : SqT c.K H' a xs2 := sub.sqT ha2
  refine ⟨fun i d hi => ?_, ⟨xs2, sq, by rw [hxs2.length]; exact Nat.le_refl _⟩⟩
  obtain ⟨x, h1, h2⟩ := hxs2.get hi
  refine ⟨⟨xs2, x, sq, h1⟩, fun y H2 hy => ?_⟩
  obtain ⟨rfl, hy⟩ := hy
  have := hy xs2 sq
  rw [h1] at this; cases this
  exact ⟨F, Nx.stay sub nt (Ex.refl _), h2⟩
def rngI (lo n : Int) : List D := (List.range (n - lo).toNat).map fun (i : Nat) => D.int (lo + (i : Int))
def lRng1 (f : EDn) : LDn := fun Γ hs => (f Γ hs).bind fun r => match r.1 with
  | .int n => if -1000 ≤ n ∧ n ≤ 1000 then some (rngI 0 n, r.2) else none
  | _ => none
def lRng2 (f1 f2 : EDn) : LDn := fun Γ hs => (f1 Γ hs).bind fun r1 => (f2 Γ r1.2).bind fun r2 => match r1.1, r2.1 with
  | .int m, .int n => if (-1000 ≤ m ∧ m ≤ 1000) ∧ (-1000 ≤ n ∧ n ≤ 1000) then some (rngI m n, r2.2) else none
  | _, _ => none
theorem yields_rng {lo n : Int} : Yields c (Itr lo (n - lo).toNat) (rngI lo n) [] := by
  intro F H sub nt _
  refine ⟨fun i d hi => ?_, ?_⟩
  · unfold rngI at hi
    rw [List.getElem?_map] at hi
    obtain ⟨j, h1, h2⟩ := Option.map_eq_some_iff.mp hi
    obtain ⟨hl, h3⟩ := List.getElem?_eq_some_iff.mp h1
    rw [List.getElem_range] at h3
    rw [List.length_range] at hl
    subst h3
    subst h2
    exact ⟨hl, fun x H' ⟨e1, e2⟩ => by subst e1; subst e2; exact ⟨F, Nx.stay sub nt (Ex.refl _), .int _⟩⟩
  · show (n - lo).toNat ≤ (rngI lo n).length
    unfold rngI
    simp
theorem si_rng1 (h : Snd c te f) : SndI c (iRng1 (tCons te tNil)) (lRng1 f) := by
  intro B hs Γ tmp σ H D0 items hs' e R q
  unfold lRng1 at e
  obtain ⟨⟨x, hs1⟩, e1, e⟩ := Option.bind_eq_some_iff.mp e
  split at e <;> try (cases e)
  rename_i n hx
  have hx : x = .int n := hx
  subst hx
  split at e <;> try (cases e)
  rename_i hz
  refine h B hs Γ tmp σ H D0 _ _ e1 _ fun v H1 a1 D1 k1 => ?_
  obtain ⟨F1, ow1, d1⟩ := id D1
  have fv := d1.tmp (.int n, v) (by simp)
  cases fv
  refine ⟨n, rfl, by omega, by omega, ?_⟩
  have := q (Itr 0 n.toNat) H1 [] a1 D1.pop k1
  rw [show n.toNat = (n - 0).toNat by simp] at this ⊢
  exact this yields_rng
theorem si_rng2 (h1 : Snd c ta f1) (h2 : Snd c tb f2) : SndI c (iRng2 (tCons ta (tCons tb tNil))) (lRng2 f1 f2) := by
  intro B hs Γ tmp σ H D0 items hs' e R q
  unfold lRng2 at e
  obtain ⟨⟨x, hs1⟩, e1, e⟩ := Option.bind_eq_some_iff.mp e
  obtain ⟨⟨y, hs2⟩, e2, e⟩ := Option.bind_eq_some_iff.mp e
  split at e <;> try (cases e)
  rename_i m n hx hy
  have hx : x = .int m := hx
  have hy : y = .int n := hy
  subst hx
  subst hy
  split at e <;> try (cases e)
  rename_i hz
  refine h1 B hs Γ tmp σ H D0 _ _ e1 _ fun v H1 a1 D1 k1 => ?_
  refine h2 B hs1 Γ _ σ H1 D1 _ _ e2 _ fun w H2 a2 D2 k2 => ?_
  obtain ⟨F1, ow1, d2⟩ := id D2
  have fv := d2.tmp (.int m, v) (by simp)
  have fw := d2.tmp (.int n, w) (by simp)
  cases fv
  cases fw
  rw [a1.ad] at k2
  refine ⟨m, n, rfl, ⟨by omega, by omega, by omega, by omega⟩, ?_⟩
  exact q _ H2 [] (a1.trans a2) D2.pop.pop (k1.trans k2) yields_rng
/-! ### for -/
def forD (step : D → SDn) : List D → SDn
  | [], Γ, hs => some (.nx Γ, hs)
  | x :: xs, Γ, hs => (step x Γ hs).bind fun r => match r.1 with
    | .nx Γ' => forD step xs Γ' r.2
    | q => some (q, r.2)
def stepD (gd : GDn) (body : SDn) : D → SDn := fun x Γ hs => (gd x Γ).bind fun Γ' => body Γ' hs
def sFor (src : LDn) (gd : GDn) (body : SDn) : SDn := fun Γ hs => (src Γ hs).bind fun r => forD (stepD gd body) r.1 Γ r.2
theorem ss_for {wi : TI} {src : LDn} {tg : TG} {js : List Nat} {gd : GDn} {tb : TS} {body : SDn} (hi : SndI c wi src) (hg : SndG c tg js gd) (hb : SndS c W tb body) : SndS c W (tFor wi tg tb) (sFor src gd body) := by
  intro B hs Γ tmp σ H D0 r hs' e E p
  unfold sFor at e
  obtain ⟨⟨items, hs1⟩, e1, e⟩ := Option.bind_eq_some_iff.mp e
  refine hi B hs Γ tmp σ H D0 items hs1 e1 _ fun J H1 ex a1 D1 k1 hY => ?_
  refine ⟨fun i m σ H => ∃ Γ hsi, i ≤ items.length ∧ m = items.length - i ∧ HSm hs hsi ∧ forD (stepD gd body) (items.drop i) Γ hsi = some (r, hs') ∧ DS c B hsi Γ (ex ++ tmp) σ H,
    ⟨items.length, Γ, hs1, Nat.zero_le _, by simp, a1, e, D1⟩, ?_⟩
  rintro i m σi Hi ⟨Γi, hsi, hle, rfl, ai, ei, Di⟩
  obtain ⟨Fi, owi, di⟩ := id Di
  obtain ⟨yg, ys⟩ := hY Fi Hi di.sub di.nt (fun p hp => di.tmp p (List.mem_append_left _ hp))
  by_cases hlt : i < items.length
  · have hx : items[i]? = some items[i] := List.getElem?_eq_getElem hlt
    obtain ⟨go, yl⟩ := yg i _ hx
    rw [List.drop_eq_getElem_cons hlt] at ei
    refine .inr ⟨go, fun σ' H' => ∃ m', m' < items.length - i ∧ ∃ Γ hsi, i + 1 ≤ items.length ∧ m' = items.length - (i + 1) ∧ HSm hs hsi ∧ forD (stepD gd body) (items.drop (i + 1)) Γ hsi = some (r, hs') ∧ DS c B hsi Γ (ex ++ tmp) σ' H', fun σ' H' h => h, fun x H' hx' => ?_⟩
    obtain ⟨F', n, fx⟩ := yl x H' hx'
    have D2 : DS c B hsi Γi ((items[i], x) :: (ex ++ tmp)) σi H' := ⟨F', owi, (di.step n).push fx⟩
    unfold forD at ei
    obtain ⟨⟨r1, hs2⟩, e2, ei⟩ := Option.bind_eq_some_iff.mp ei
    unfold stepD at e2
    obtain ⟨Γ2, e3, e2⟩ := Option.bind_eq_some_iff.mp e2
    refine hg B hsi Γi _ σi H' x items[i] D2 Γ2 e3 _ fun σ2 _ _ _ _ D3 => ?_
    refine hb B hsi Γ2 _ σ2 H' D3.pop r1 hs2 e2 _ fun a2 => ?_
    cases r1 with
    | nx Γ3 =>
      intro σ4 H4 D4
      exact ⟨items.length - (i + 1), by omega, Γ3, hs2, by omega, rfl, ai.trans a2, ei, D4⟩
    | ret d =>
      cases ei
      exact p (ai.trans a2)
    | exc d =>
      cases ei
      exact p (ai.trans a2)
    | retO d =>
      cases ei
      exact p (ai.trans a2)
  · have ee : i = items.length := by omega
    subst ee
    rw [List.drop_length] at ei
    unfold forD at ei
    cases ei
    exact .inl ⟨ys, p ai σi Hi (Di.drop (fun p hp => List.mem_append_right _ hp))⟩
/-! ### list comprehensions -/
def compD (gd : GDn) (cond : BDn) (elt : EDn) (Γ : Env) : List D → HS → Option (List D × HS)
  | [], hs => some ([], hs)
  | x :: xs, hs => (gd x Γ).bind fun Γ' => (cond Γ' hs).bind fun rb => if rb.1 = true then
      (elt Γ' rb.2).bind fun ry => (compD gd cond elt Γ xs ry.2).map fun rest => (ry.1 :: rest.1, rest.2)
    else compD gd cond elt Γ xs rb.2
def deadAll (Γ : Env) (js : List Nat) : Bool := js.all fun j => match Γ[j]? with
  | some .dead => true
  | _ => false
def eComp (src : LDn) (js : List Nat) (gd : GDn) (cond : BDn) (elt : EDn) : EDn := fun Γ hs => if deadAll Γ js = true then
    (src Γ hs).bind fun r => if r.1.length ≤ 100000 then (compD gd cond elt Γ r.1 r.2).map fun q => (.lst q.1, q.2) else none
  else none
def bYes : BDn := fun _ hs => some (true, hs)
theorem st_yes : SndT c tYes bYes := by
  intro B hs Γ tmp σ H D0 b hs' e Q q
  cases e
  exact q H (HSm.refl hs) D0 (Kp.refl H)
theorem wipe_out : ∀ (vs : List Nat) (σ : L2.St) (k : Nat), k ∉ vs → (wipe σ vs)[k]? = σ[k]?
  | [], _, _, _ => rfl
  | v :: vs, σ, k, h => by
    unfold wipe
    rw [List.getElem?_set_ne (by simp at h; omega)]
    exact wipe_out vs σ k (by simp at h; exact h.2)
theorem wipe_in : ∀ (vs : List Nat) (σ : L2.St) (k : Nat), k ∈ vs → (wipe σ vs)[k]? = if k < σ.length then some none else none
  | [], _, _, h => by simp at h
  | v :: vs, σ, k, h => by
    unfold wipe
    by_cases e : v = k
    · subst e
      rw [List.getElem?_set]
      simp only [if_true, wipe_length]
    · rw [List.getElem?_set_ne e]
      exact wipe_in vs σ k (by simp at h; exact h.resolve_left (fun z => e z.symm))
theorem wipe_eq {vs : List Nat} {σ σ' : L2.St} (hl : σ'.length = σ.length) (h : ∀ k, k ∉ vs → σ'[k]? = σ[k]?) : wipe σ' vs = wipe σ vs := by
  apply List.ext_getElem?
  intro k
  by_cases hk : k ∈ vs
  · rw [wipe_in _ _ _ hk, wipe_in _ _ _ hk, hl]
  · rw [wipe_out _ _ _ hk, wipe_out _ _ _ hk, h k hk]
theorem deadAll_at {Γ : Env} {js : List Nat} (h : deadAll Γ js = true) {j : Nat} (hj : j ∈ js) : Γ[j]? = some .dead := by
  unfold deadAll at h
  have := List.all_eq_true.mp h j hj
  split at this
  · assumption
  · cases this
theorem ds_wipe {B : Ba} {hs : HS} {Γ : Env} {tmp : List (D × V)} {σ σ' : L2.St} {H : Hp} {js : List Nat} (hd : deadAll Γ js = true) (d : DS c B hs Γ tmp σ H) (hl : σ'.length = σ.length) (h : ∀ k, k ∉ js → σ'[k]? = σ[k]?) : DS c B hs Γ tmp σ' H := by
  obtain ⟨F, ow, d⟩ := d
  refine ⟨F, ow, d.sub, d.nt, d.ex0, d.new, d.old, d.hF, d.hH, d.tabs, by rw [hl]; exact d.len, fun i s hi => ?_, d.sep, d.tmp, d.hid, d.hnd⟩
  by_cases hk : i ∈ js
  · have := deadAll_at hd hk
    rw [this] at hi; cases hi
    trivial
  · rw [h i hk]; exact d.slot i s hi
end
end Dl
namespace Dl
open PySem PySem.Spec PyProof.Rows L2
abbrev Ba.push (B : Ba) (p : Addr) (x : D) : Ba := { B with hd := (p, x) :: B.hd }
theorem Kp.mut {ad : Option Addr} {H H' : Hp} {p : Addr} {o : HO} (k : Kp ad H H') (h : H p = none) : Kp ad H (upd H' p o) :=
  ⟨fun a u h1 h2 h3 => by rw [upd_ne (ne_of_none h3 h)]; exact k.old a u h1 h2 h3, fun a ps h3 => by rw [upd_ne (ne_of_none h3 h)]; exact k.tbl a ps h3, fun a h1 h2 => by
    by_cases e : a = p
    · subst e; exact absurd h h2
    · rw [upd_ne e]; exact k.some a h1 h2⟩
section
variable {c : Cf} {B : Ba} {hs hs' : HS} {Γ Γ2 : Env} {tmp : List (D × V)} {σ σ2 : L2.St} {H H' F F' : Hp} {ow : Nat → Addr}
theorem DSF.hide {p : Addr} {x : D} {o : HO} (d : DSF c B hs Γ tmp σ H F ow) (hp : H p = none) (hx : Own c F (upd H p o) (.ref p) x p) : DSF c (B.push p x) hs Γ tmp σ (upd H p o) F ow := by
  have d1 := d.step (Nx.stay (c := c) (ad := none) d.sub d.nt (Ex.new (o := o) hp))
  have ne : ∀ {v : V} {y : D} {q : Addr}, Own c F H v y q → q ≠ p := fun f z => by
    obtain ⟨u, hu, _⟩ := f.notT
    rw [z, hp] at hu; cases hu
  refine ⟨d1.sub, d1.nt, d1.ex0, d1.new, d1.old, d1.hF, d1.hH, d1.tabs, d1.len, d1.slot, d1.sep, d1.tmp, fun q hq => ?_, ?_⟩
  · rcases List.mem_cons.mp hq with rfl | hq
    · refine ⟨hx, d.sub.back hp, d.old.free hp, fun i ⟨y, hi⟩ => ?_⟩
      obtain ⟨v, _, f, _⟩ := d.slot i _ hi
      exact ne f
    · exact d1.hid q hq
  · show ((p, x) :: B.hd |>.map (·.1)).Nodup
    rw [List.map_cons, List.nodup_cons]
    refine ⟨fun hm => ?_, d.hnd⟩
    obtain ⟨q, hq, e⟩ := List.mem_map.mp hm
    exact ne (d.hid q hq).1 e
theorem DSF.hmut {p : Addr} {x y : D} {o : HO} (d : DSF c (B.push p x) hs Γ tmp σ H F ow) (ho : ∀ ps, o ≠ .tbl ps) (hx : Own c F (upd H p o) (.ref p) y p) : DSF c (B.push p y) hs Γ tmp σ (upd H p o) F ow := by
  obtain ⟨f1, f2, f3, f4⟩ := d.hid (p, x) List.mem_cons_self
  obtain ⟨u0, hu0, ut0, uk0⟩ := f1.notT
  have at_ : ∀ a, a ≠ p → upd H p o a = H a := fun a h => upd_ne h
  have neF : ∀ a, F a ≠ none → a ≠ p := fun a h z => h (by rw [z]; exact f2)
  obtain ⟨hl, fl⟩ := d.hH
  have neh : hs.ad ≠ p := fun z => by
    have hu0' : H p = some u0 := hu0
    rw [← z, hl] at hu0'; cases hu0'; exact uk0 _ rfl
  have f3' : B.H0 p = none := f3
  have neo : ∀ a u, B.H0 a = some u → a ≠ p := fun a u e z => by rw [z, f3'] at e; cases e
  have own2 : ∀ {w : V} {z : D} {q : Addr}, Own c F H w z q → q ≠ p → Own c F (upd H p o) w z q := fun f n => f.mono (Ex.refl F) fun u hu => by rw [at_ _ n]; exact hu
  have hnd : ((p, x) :: B.hd |>.map (·.1)).Nodup := d.hnd
  rw [List.map_cons, List.nodup_cons] at hnd
  refine ⟨fun a u e => by rw [at_ a (neF a (by rw [e]; simp))]; exact d.sub a u e, d.nt, d.ex0, d.new,
    ⟨fun a u ha hu e => by rw [at_ a (neo a u e)]; exact d.old.old a u ha hu e, fun a ps e => by rw [at_ a (neo a _ e)]; exact d.old.tbl a ps e, fun a h1 h2 => by rw [at_ a (by cases h1; exact neh)]; exact d.old.some a h1 h2⟩,
    d.hF, ⟨by rw [at_ _ neh]; exact hl, fl⟩, fun q hq => ?_, d.len, fun j s h => ?_, d.sep, d.tmp, fun q hq => ?_, ?_⟩
  · obtain ⟨ps, t1, t2, t3⟩ := d.tabs q hq
    refine ⟨ps, by rw [at_ _ (fun z => by rw [z, hu0] at t1; exact ut0 _ (Option.some.inj t1))]; exact t1, t2, fun pos cv hc => ?_⟩
    obtain ⟨cc, c1, c2⟩ := t3 pos cv hc
    exact ⟨cc, c1, by rw [at_ _ (fun z => f1.notC q.2 (by rw [← z]; exact c2))]; exact c2⟩
  · have q := d.slot j s h
    cases s with
    | dead => trivial
    | dat dd => exact q
    | own dd =>
      obtain ⟨w, g1, g2, g3, g4⟩ := q
      exact ⟨w, g1, own2 g2 (f4 j ⟨_, h⟩), g3, g4⟩
  · rcases List.mem_cons.mp hq with rfl | hq
    · exact ⟨hx, f2, f3, f4⟩
    · obtain ⟨a1, a2, a3, a4⟩ := d.hid q (List.mem_cons_of_mem _ hq)
      exact ⟨own2 a1 (fun z => hnd.1 (List.mem_map.mpr ⟨q, hq, z⟩)), a2, a3, a4⟩
  · show ((p, y) :: B.hd |>.map (·.1)).Nodup
    rw [List.map_cons, List.nodup_cons]
    exact hnd
theorem DSF.unhide {p : Addr} {x : D} (d : DSF c (B.push p x) hs Γ tmp σ H F ow) : ∃ F', DSF c B hs Γ ((frzD x, .ref p) :: tmp) σ H F' ow := by
  obtain ⟨f1, f2, f3, f4⟩ := d.hid (p, x) List.mem_cons_self
  obtain ⟨u, hu, ut, uk⟩ := f1.notT
  have hu : H p = some u := hu
  have f2 : F p = none := f2
  have f3 : B.H0 p = none := f3
  have e : Ex F (upd F p u) := Ex.new f2
  obtain ⟨hl, fl⟩ := d.hH
  have neh : hs.ad ≠ p := fun z => by rw [← z, hl] at hu; cases hu; exact uk _ rfl
  have ownk : ∀ {w : V} {y : D} {q : Addr}, Own c F H w y q → F q = none → q ≠ p → Own c (upd F p u) H w y q ∧ upd F p u q = none := fun f g n => ⟨f.mono e fun _ h => h, by rw [upd_ne n]; exact g⟩
  have hnd : ((p, x) :: B.hd |>.map (·.1)).Nodup := d.hnd
  rw [List.map_cons, List.nodup_cons] at hnd
  refine ⟨_, ⟨fun a o h => ?_, fun a ps h => ?_, d.ex0.trans e, fun a h1 h2 => ?_, d.old, by rw [upd_ne neh]; exact d.hF, ⟨hl, fl.mono e⟩, d.tabs, d.len, fun j s h => ?_, d.sep, fun q hq => ?_, fun q hq => ?_, hnd.2⟩⟩
  · by_cases z : a = p
    · subst z; rw [upd_same] at h; cases h; exact hu
    · rw [upd_ne z] at h; exact d.sub a o h
  · by_cases z : a = p
    · subst z; rw [upd_same] at h; exact ut ps (Option.some.inj h)
    · rw [upd_ne z] at h; exact d.nt a ps h
  · by_cases z : a = p
    · subst z; exact f3
    · rw [upd_ne z] at h1; exact d.new a h1 h2
  · have q := d.slot j s h
    cases s with
    | dead => trivial
    | dat dd => obtain ⟨w, g1, g2⟩ := q; exact ⟨w, g1, g2.mono e⟩
    | own dd =>
      obtain ⟨w, g1, g2, g3, g4⟩ := q
      exact ⟨w, g1, (ownk g2 g3 (f4 j ⟨_, h⟩)).1, (ownk g2 g3 (f4 j ⟨_, h⟩)).2, g4⟩
  · rcases List.mem_cons.mp hq with rfl | hq
    · exact f1.frz f2 hu
    · exact (d.tmp q hq).mono e
  · obtain ⟨a1, a2, a3, a4⟩ := d.hid q (List.mem_cons_of_mem _ hq)
    have n : q.1 ≠ p := fun z => hnd.1 (List.mem_map.mpr ⟨q, hq, z⟩)
    exact ⟨(ownk a1 a2 n).1, (ownk a1 a2 n).2, a3, a4⟩
/-- a hidden dict comes out, frozen for good -/
theorem DSF.unhideZ {p : Addr} {z : Bool} {kvs : List (D × D)} {es : List (NestedKey × Addr × V)} {od : Obj} (d : DSF c (B.push p (.dic z kvs)) hs Γ tmp σ H F ow) (hp : H p = some (dN c p es)) (fk : FDk c F es kvs) :
    DSF c B hs Γ ((.dic true kvs, .ref p) :: tmp) σ (upd H p (.frz od (dN c p es))) (upd F p (.frz od (dN c p es))) ow := by
  obtain ⟨f1, f2, f3, f4⟩ := d.hid (p, .dic z kvs) List.mem_cons_self
  have f2 : F p = none := f2
  have f3 : B.H0 p = none := f3
  have e : Ex F (upd F p (.frz od (dN c p es))) := Ex.new f2
  obtain ⟨hl, fl⟩ := d.hH
  have neh : hs.ad ≠ p := fun z => by rw [← z, hl] at hp; unfold dN at hp; cases hp
  have neo : ∀ a u, B.H0 a = some u → a ≠ p := fun a u e z => by rw [z, f3] at e; cases e
  have at_ : ∀ a, a ≠ p → upd H p (.frz od (dN c p es)) a = H a := fun a h => upd_ne h
  have ownk : ∀ {w : V} {y : D} {q : Addr}, Own c F H w y q → F q = none → q ≠ p → Own c (upd F p (.frz od (dN c p es))) (upd H p (.frz od (dN c p es))) w y q ∧ upd F p (.frz od (dN c p es)) q = none := fun f g n => ⟨f.mono e fun u hu => by rw [at_ _ n]; exact hu, by rw [upd_ne n]; exact g⟩
  have hnd : ((p, D.dic z kvs) :: B.hd |>.map (·.1)).Nodup := d.hnd
  rw [List.map_cons, List.nodup_cons] at hnd
  have old := d.old
  refine ⟨fun a o h => ?_, fun a ps h => ?_, d.ex0.trans e, fun a h1 h2 => ?_,
    ⟨fun a u ha hu e => by rw [at_ a (neo a u e)]; exact old.old a u ha hu e, fun a ps e => by rw [at_ a (neo a _ e)]; exact old.tbl a ps e, fun a h1 h2 => by rw [at_ a (by cases h1; exact neh)]; exact old.some a h1 h2⟩,
    by rw [upd_ne neh]; exact d.hF, ⟨by rw [at_ _ neh]; exact hl, fl.mono e⟩, fun q hq => ?_, d.len, fun j s h => ?_, d.sep, fun q hq => ?_, fun q hq => ?_, hnd.2⟩
  · by_cases z : a = p
    · subst z; rw [upd_same] at h ⊢; exact h
    · rw [upd_ne z] at h ⊢; exact d.sub a o h
  · by_cases z : a = p
    · subst z; rw [upd_same] at h; cases h
    · rw [upd_ne z] at h; exact d.nt a ps h
  · by_cases z : a = p
    · subst z; exact f3
    · rw [upd_ne z] at h1; exact d.new a h1 h2
  · obtain ⟨ps, t1, t2, t3⟩ := d.tabs q hq
    refine ⟨ps, by rw [at_ _ (fun z => by rw [z, hp] at t1; unfold dN at t1; cases t1)]; exact t1, t2, fun pos cv hc => ?_⟩
    obtain ⟨cc, c1, c2⟩ := t3 pos cv hc
    exact ⟨cc, c1, by rw [at_ _ (fun z => f1.notC q.2 (by rw [← z]; exact c2))]; exact c2⟩
  · have q := d.slot j s h
    cases s with
    | dead => trivial
    | dat dd => obtain ⟨w, g1, g2⟩ := q; exact ⟨w, g1, g2.mono e⟩
    | own dd =>
      obtain ⟨w, g1, g2, g3, g4⟩ := q
      exact ⟨w, g1, (ownk g2 g3 (f4 j ⟨_, h⟩)).1, (ownk g2 g3 (f4 j ⟨_, h⟩)).2, g4⟩
  · rcases List.mem_cons.mp hq with rfl | hq
    · exact .dicT upd_same (fk.mono e)
    · exact (d.tmp q hq).mono e
  · obtain ⟨a1, a2, a3, a4⟩ := d.hid q (List.mem_cons_of_mem _ hq)
    have n : q.1 ≠ p := fun z => hnd.1 (List.mem_map.mpr ⟨q, hq, z⟩)
    exact ⟨(ownk a1 a2 n).1, (ownk a1 a2 n).2, a3, a4⟩
theorem ds_swap {js : List Nat} (d : DS c B hs Γ2 tmp σ2 H) (hd : deadAll Γ js = true) (hl : σ2.length = σ.length) (h : ∀ k, k ∉ js → σ2[k]? = σ[k]?) (gl : Γ2.length = Γ.length) (g : ∀ k, k ∉ js → Γ2[k]? = Γ[k]?) : DS c B hs Γ tmp σ H := by
  obtain ⟨F, ow, d⟩ := d
  have own : ∀ i, isOwn Γ i → isOwn Γ2 i := fun i ⟨y, hi⟩ => by
    by_cases hk : i ∈ js
    · have := deadAll_at hd hk
      rw [this] at hi; cases hi
    · exact ⟨y, by rw [g i hk]; exact hi⟩
  refine ⟨F, ow, d.sub, d.nt, d.ex0, d.new, d.old, d.hF, d.hH, d.tabs, by rw [← gl, ← hl]; exact d.len, fun i s hi => ?_, fun i j a b => d.sep i j (own i a) (own j b), d.tmp, fun q hq => let ⟨a1, a2, a3, a4⟩ := d.hid q hq; ⟨a1, a2, a3, fun i hi => a4 i (own i hi)⟩, d.hnd⟩
  by_cases hk : i ∈ js
  · have := deadAll_at hd hk
    rw [this] at hi; cases hi
    trivial
  · rw [← h i hk]; exact d.slot i s (by rw [g i hk]; exact hi)
variable {te : TE} {tt : TT} {elt : EDn} {cond : BDn}
theorem snd_comp {wi : TI} {src : LDn} {tg : TG} {js : List Nat} {gd : GDn} (hi : SndI c wi src) (hg : SndG c tg js gd) (ht : SndT c tt cond) (he : Snd c te elt) : Snd c (tLc wi tg tt te js) (eComp src js gd cond elt) := by
  intro B hs Γ tmp σ H D0 d hs' e Q q
  unfold eComp at e
  split at e <;> try (cases e)
  rename_i hd
  obtain ⟨⟨items, hs1⟩, e1, e⟩ := Option.bind_eq_some_iff.mp e
  by_cases hz : items.length ≤ 100000
  rotate_left
  · simp only [if_neg hz] at e
    cases e
  simp only [if_pos hz] at e
  obtain ⟨⟨total, hs2⟩, e2, e⟩ := Option.map_eq_some_iff.mp e
  cases e
  refine hi B hs Γ tmp σ H D0 items hs1 e1 _ fun J H1 ex a1 D1 k1 hY => ?_
  intro p hp
  have hp0 : H p = none := k1.free hp
  refine ⟨fun i m H' => ∃ hsi acc rest, i ≤ items.length ∧ m = items.length - i ∧ HSm hs hsi ∧ compD gd cond elt Γ (items.drop i) hsi = some (rest, hs2) ∧ acc ++ rest = total ∧ acc.length ≤ i ∧ DS c (B.push p (.lst acc)) hsi Γ (ex ++ tmp) σ H' ∧ Kp (some hs.ad) H H',
    ⟨items.length, hs1, [], total, Nat.zero_le _, by simp, a1, by simpa using e2, by simp, by simp, ?_, k1.mut hp0⟩, ?_⟩
  · obtain ⟨F, ow, d1⟩ := D1
    exact ⟨F, ow, d1.hide hp (.lst upd_same .nil)⟩
  rintro i m Hi ⟨hsi, acc, rest, hle, rfl, ai, ei, ht', hacc, Di, ki⟩
  obtain ⟨Fi, owi, di⟩ := id Di
  obtain ⟨yg, ys⟩ := hY Fi Hi di.sub di.nt (fun p hp => di.tmp p (List.mem_append_left _ hp))
  by_cases hlt : i < items.length
  · have hx : items[i]? = some items[i] := List.getElem?_eq_getElem hlt
    obtain ⟨go, yl⟩ := yg i _ hx
    rw [List.drop_eq_getElem_cons hlt] at ei
    refine .inr ⟨go, fun H' => ∃ m', m' < items.length - i ∧ ∃ hsi acc rest, i + 1 ≤ items.length ∧ m' = items.length - (i + 1) ∧ HSm hs hsi ∧ compD gd cond elt Γ (items.drop (i + 1)) hsi = some (rest, hs2) ∧ acc ++ rest = total ∧ acc.length ≤ i + 1 ∧ DS c (B.push p (.lst acc)) hsi Γ (ex ++ tmp) σ H' ∧ Kp (some hs.ad) H H', fun H' h => h, fun x H' hx' => ?_⟩
    obtain ⟨F', n, fx⟩ := yl x H' hx'
    have lw : (wipe σ js).length = σ.length := wipe_length σ js
    have D2 : DS c (B.push p (.lst acc)) hsi Γ ((items[i], x) :: (ex ++ tmp)) (wipe σ js) H' := ds_wipe hd ⟨F', owi, (di.step n).push fx⟩ lw (fun k hk => wipe_out js σ k hk)
    unfold compD at ei
    obtain ⟨Γ2, e3, ei⟩ := Option.bind_eq_some_iff.mp ei
    obtain ⟨⟨b, hs3⟩, e4, ei⟩ := Option.bind_eq_some_iff.mp ei
    refine hg _ hsi Γ _ (wipe σ js) H' x items[i] D2 Γ2 e3 _ fun σ2 l2 o2 g2 gl2 D3 => ?_
    have ew : wipe σ2 js = wipe σ js := (wipe_eq l2 o2).trans (wipe_eq lw (fun k hk => wipe_out js σ k hk))
    refine ⟨ew, ?_⟩
    have oσ : ∀ k, k ∉ js → σ2[k]? = σ[k]? := fun k hk => (o2 k hk).trans (wipe_out js σ k hk)
    have kH' : Kp (some hs.ad) H H' := ki.trans n.he.mono
    refine ht _ hsi Γ2 _ σ2 H' D3 b hs3 e4 _ fun H3 a3 D4 k3 => ?_
    rw [ai.ad] at k3
    cases b with
    | false =>
      rw [if_neg Bool.false_ne_true]
      simp only [if_neg Bool.false_ne_true] at ei
      exact ⟨_, by omega, hs3, acc, rest, by omega, rfl, ai.trans a3, ei, ht', by omega, (ds_swap D4 hd (l2.trans lw) oσ gl2 g2).pop, kH'.trans k3⟩
    | true =>
      rw [if_pos rfl]
      simp only [if_true] at ei
      obtain ⟨⟨y, hs4⟩, e5, ei⟩ := Option.bind_eq_some_iff.mp ei
      obtain ⟨⟨rest2, hs5⟩, e6, ei⟩ := Option.map_eq_some_iff.mp ei
      cases ei
      refine he _ hs3 Γ2 _ σ2 H3 D4 y hs4 e5 _ fun v H4 a4 D5 k4 => ?_
      rw [(ai.trans a3).ad] at k4
      obtain ⟨F5, ow5, d5⟩ := D5
      obtain ⟨f1, f2, f3, f4⟩ := d5.hid (p, .lst acc) List.mem_cons_self
      generalize hpq : (p, D.lst acc).1 = p1 at f1
      have hpq : p = p1 := hpq
      subst hpq
      cases f1 with
      | @lst _ xs _ hxs fxs =>
      refine ⟨xs, hxs, ?_, ?_⟩
      · rw [fxs.length]; exact Nat.lt_of_lt_of_le (Nat.lt_of_le_of_lt hacc (Nat.lt_of_lt_of_le hlt hz)) (by decide)
      · have d6 := d5.hmut (y := .lst (acc ++ [y])) (o := .lst (xs ++ [v])) (by intro ps z; cases z) (.lst upd_same (fxs.append (.cons (d5.tmp (y, v) (by simp)) .nil)))
        refine ⟨_, by omega, hs4, acc ++ [y], rest2, by omega, rfl, (ai.trans a3).trans a4, e6, by simpa using ht', by simp; omega, ?_, ((kH'.trans k3).trans k4).mut hp0⟩
        exact (ds_swap ⟨F5, ow5, d6⟩ hd (l2.trans lw) oσ gl2 g2).pop.pop
  · have ee : i = items.length := by omega
    subst ee
    rw [List.drop_length] at ei
    unfold compD at ei
    cases ei
    rw [List.append_nil] at ht'
    subst ht'
    obtain ⟨F', d2⟩ := di.unhide
    exact .inl ⟨ys, q _ _ ai ⟨F', owi, d2.drop (by intro p hp; rcases List.mem_cons.mp hp with h | h <;> simp [h, frzD])⟩ ki⟩
/-! ### calls -/
abbrev Fn := List D → HS → Option (D × HS)
/-- the promise of a def that computes G and raises nothing -/
def spD (c : Cf) (G : Fn) : Sp := fun vs H Q _ => ∃ ds hs d hs' F, G ds hs = some (d, hs') ∧ Ex F H ∧ (∀ a ps, F a ≠ some (.tbl ps)) ∧ F hs.ad = none ∧ (H hs.ad = some (.dK (handK hs)) ∧ FD c F (.ref hs.la) (.lst (hs.cells.map D.int))) ∧ LamX.Tabs c.T H ∧ FDs c F vs ds ∧
  ∀ v H' F', HSm hs hs' → Nx c (some hs.ad) F H F' H' → F' hs'.ad = none → (H' hs'.ad = some (.dK (handK hs')) ∧ FD c F' (.ref hs'.la) (.lst (hs'.cells.map D.int))) → FD c F' v d → Q v H'
def eCall (G : Fn) (l : LDn) : EDn := fun Γ hs => (l Γ hs).bind fun r => G r.1 r.2
variable {tas : TA} {l : LDn}
theorem snd_call {G : Fn} {E : XK} (h : SndA c tas l) : Snd c (tCall (spD c G) [] E tas) (eCall G l) := by
  intro B hs Γ tmp σ H D0 d hs' e Q q
  unfold eCall at e
  obtain ⟨⟨ds, hs1⟩, e1, e⟩ := Option.bind_eq_some_iff.mp e
  refine h B hs Γ tmp σ H D0 ds hs1 e1 _ fun vs H1 a1 ln D1 k1 => ?_
  obtain ⟨F, ow, d1⟩ := D1
  refine ⟨ds, hs1, d, hs', F, e, d1.sub, d1.nt, d1.hF, d1.hH, d1.tabs, by rw [List.append_nil]; exact fds_zip ln (fun p hp => d1.tmp p (List.mem_append_left _ hp)), fun v H' F' a2 n hf hh fv => ?_⟩
  have n2 := n.he
  rw [a1.ad] at n2
  exact q v H' (a1.trans a2) ⟨F', ow, ((d1.call n a2.ad hf hh).push fv).drop (by intro p hp; simp at hp ⊢; rcases hp with h | h <;> simp [h])⟩ (k1.trans n2)
/-- what a body computes, called with ds: n parameters, m slots -/
def fnG (n m : Nat) (g : SDn) : Fn := fun ds hs => if ds.length = n then (g (ds.map Sl.dat ++ List.replicate (m - n) .dead) hs).bind fun r => match r.1 with
  | .ret d => some (d, r.2)
  | .nx _ => some (.non, r.2)
  | .exc _ => none
  | .retO _ => none
else none
theorem start_get {N : List Str} {vs : List V} {i : Nat} : (L2.start N vs)[i]? = if i < vs.length then (vs[i]?).map some else if i < vs.length + (N.length - vs.length) then some none else none := by
  unfold L2.start
  rw [List.getElem?_append]
  simp only [List.length_map]
  split
  · rw [List.getElem?_map]
  · rename_i h
    rw [List.getElem?_replicate]
    split <;> rename_i h2
    · rw [if_pos (by omega)]
    · rw [if_neg (by omega)]
theorem DSF.start {N : List Str} {vs : List V} {ds : List D} (hs : HS) (sub : Ex F H) (nt : ∀ a ps, F a ≠ some (.tbl ps)) (hF : F hs.ad = none) (hh : H hs.ad = some (.dK (handK hs)) ∧ FD c F (.ref hs.la) (.lst (hs.cells.map D.int))) (tb : LamX.Tabs c.T H) (fv : FDs c F vs ds) (hN : ds.length ≤ N.length) :
    DSF c ⟨F, H, []⟩ hs (ds.map Sl.dat ++ List.replicate (N.length - ds.length) .dead) [] (L2.start N vs) H F (fun _ => 0) := by
  have ln := fv.length
  have noOwn : ∀ i, ¬ isOwn (ds.map Sl.dat ++ List.replicate (N.length - ds.length) .dead) i := fun i ⟨x, h⟩ => by
    rw [List.getElem?_append] at h
    split at h
    · rw [List.getElem?_map] at h
      obtain ⟨y, _, z⟩ := Option.map_eq_some_iff.mp h
      cases z
    · rw [List.getElem?_replicate] at h
      split at h <;> cases h
  refine ⟨sub, nt, Ex.refl F, fun a h1 h2 => absurd h2 h1, Kp.refl H, hF, hh, tb, ?_, fun i s h => ?_, fun i j h => absurd h (noOwn i), fun p hp => by simp at hp, fun q hq => by simp at hq, List.nodup_nil⟩
  · unfold L2.start
    simp [ln]
  · rw [List.getElem?_append] at h
    split at h
    · rename_i hl
      rw [List.length_map] at hl
      rw [List.getElem?_map] at h
      obtain ⟨y, hy, z⟩ := Option.map_eq_some_iff.mp h
      subst z
      obtain ⟨x, hx, fx⟩ := fv.get hy
      refine ⟨x, ?_, fx⟩
      rw [start_get, if_pos (by omega), hx]
      rfl
    · rw [List.getElem?_replicate] at h
      split at h <;> cases h
      trivial
/-- a def's body keeps its promise -/
theorem fn_body {W : WX'} {t : TS} {g : SDn} {n : Nat} {N : List Str} (hb : SndS c W t g) (hn : n ≤ N.length) {vs : List V} {H : Hp} {Q : VK} {E : XK} (h : spD c (fnG n N.length g) vs H Q E) : t { nx := fun _ H' => Q .non H', rt := Q } (L2.start N vs) H := by
  obtain ⟨ds, hs, d, hs', F, e, sub, nt, hF, hh, tb, fv, q⟩ := h
  unfold fnG at e
  split at e <;> try (cases e)
  rename_i hl
  obtain ⟨⟨r, hs1⟩, e1, e⟩ := Option.bind_eq_some_iff.mp e
  have D0 := DSF.start hs sub nt hF hh tb fv (N := N) (by omega)
  rw [hl] at D0
  have fin : ∀ {v : V} {H' : Hp} {x : D} {hs1 : HS}, HSm hs hs1 → DS c ⟨F, H, []⟩ hs1 [] [(x, v)] [] H' → (d, hs') = (x, hs1) → Q v H' := fun {v H' x hs1} a ⟨F', ow, d'⟩ ee => by
    cases ee
    have o := d'.old
    rw [a.ad] at o
    exact q v H' F' a ⟨d'.ex0, d'.sub, o, d'.new, d'.nt, fun _ => d'.tabs⟩ d'.hF d'.hH (d'.tmp (d, v) (by simp))
  refine hb ⟨F, H, []⟩ hs _ [] _ H ⟨F, _, D0⟩ r hs1 e1 _ fun a1 => ?_
  cases r with
  | nx Γ' =>
    cases e
    intro σ' H' D'
    obtain ⟨F', ow, d'⟩ := D'
    exact fin a1 ⟨F', ow, (d'.clear.drop (t2 := []) (by simp)).push .non⟩ rfl
  | ret x =>
    cases e
    exact fun v H' D' => fin a1 D' rfl
  | exc x => cases e
  | retO x => cases e
theorem sp_len {n m : Nat} {g : SDn} {vs : List V} {H : Hp} {Q : VK} {E : XK} (h : spD c (fnG n m g) vs H Q E) : vs.length = n := by
  obtain ⟨ds, hs, d, hs', F, e, sub, nt, hF, hh, tb, fv, q⟩ := h
  unfold fnG at e
  split at e <;> try (cases e)
  rename_i hl
  rw [fv.length, hl]
end
end Dl
namespace Dl
open PySem PySem.Spec PyProof.Rows L2
/-! ### data as the library reads it -/
mutual
def toPy : D → PyData
  | .bl b => .bool b
  | .int i => .int i
  | .str x => .str x
  | .tup ds => .tuple (toPys ds)
  | .ptup ds => .tuple (toPys ds)
  | .lst ds => .list (toPys ds)
  | _ => .none
def toPys : List D → List PyData
  | [] => []
  | d :: ds => toPy d :: toPys ds
end
mutual
def pOk : D → Bool
  | .non | .bl _ | .int _ | .str _ => true
  | .tup ds => pOks ds
  | .ptup ds => pOks ds
  | .lst ds => pOks ds
  | _ => false
def pOks : List D → Bool
  | [] => true
  | d :: ds => pOk d && pOks ds
end
theorem toPys_map : ∀ ds : List D, toPys ds = ds.map toPy
  | [] => by simp [toPys]
  | d :: ds => by simp [toPys, toPys_map ds]
theorem pOks_all : ∀ ds : List D, pOks ds = ds.all pOk
  | [] => by simp [pOks]
  | d :: ds => by simp [pOks, pOks_all ds]
mutual
theorem FD.dp {c : Cf} {F H : Hp} (e : Ex F H) : ∀ {d : D} {v : V}, FD c F v d → pOk d = true → Dp c.K H v (toPy d)
  | .non, _, .non, _ => by rw [toPy]; exact .non; all_goals (intros; simp_all)
  | .bl b, _, .bl _, _ => by rw [toPy]; exact .bl b
  | .int b, _, .int _, _ => by rw [toPy]; exact .int b
  | .str b, _, .str _, _ => by rw [toPy]; exact .str b
  | .tup ds, _, .tup h t, p => by rw [toPy]; exact .tup (e.sqT h) (FDs.dp e t (by simpa [pOk] using p))
  | .lst ds, _, .lst h t, p => by rw [toPy]; exact .lst (.inl (.inl (e _ _ h))) (FDs.dp e t (by simpa [pOk] using p))
  | .ty _, _, _, p => by simp [pOk] at p
  | .cls _, _, _, p => by simp [pOk] at p
  | .hand _, _, _, p => by simp [pOk] at p
  | .dic _ _, _, _, p => by simp [pOk] at p
  | .obj _ _, _, _, p => by simp [pOk] at p
  | .lam _ _ _ _, _, _, p => by simp [pOk] at p
  | .setD _, _, _, p => by simp [pOk] at p
  | .pin _, _, _, p => by simp [pOk] at p
  | .ptup ds, _, .ptup h _ t, p => by rw [toPy]; exact .tup (e.sqT (.inl (.inr ⟨_, h⟩))) (FDs.dp e t (by simpa [pOk] using p))
theorem FDs.dp {c : Cf} {F H : Hp} (e : Ex F H) : ∀ {ds : List D} {vs : List V}, FDs c F vs ds → pOks ds = true → DpAll c.K H vs (toPys ds)
  | [], _, .nil, _ => by rw [toPys]; exact .nil
  | d :: ds, _, .cons a t, p => by
    rw [toPys]
    have p' : pOk d = true ∧ pOks ds = true := by simpa [pOks] using p
    exact .cons (FD.dp e a p'.1) (FDs.dp e t p'.2)
end
def ok (d : D) : Bool := pOk d && SeqAt.shaped (toPy d)
/-- the context's own program, world, written part -/
structure CfOk (c : Cf) (X : Cx) : Prop where
  P : c.P = X.prog
  w : c.w = X.w
  K : c.K = X.K
/-! ### arithmetic -/
def dSub : D → D → Option D
  | .int i, .int j => some (.int (i - j))
  | _, _ => none
def mulOk (i j : Int) : Prop := CMulW i j
instance (i j : Int) : Decidable (mulOk i j) := inferInstanceAs (Decidable (i.natAbs.log2 + j.natAbs.log2 < 1000000))
def dMul : D → D → Option D
  | .int i, .int j => if mulOk i j then some (.int (i * j)) else none
  | _, _ => none
def divOk (j : Int) : Prop := 0 < j ∧ j.natAbs.log2 < 9000
instance (j : Int) : Decidable (divOk j) := inferInstanceAs (Decidable (0 < j ∧ j.natAbs.log2 < 9000))
def dDiv : D → D → Option D
  | .int i, .int j => if divOk j then some (.int (i / j)) else none
  | _, _ => none
def dMod : D → D → Option D
  | .int i, .int j => if 0 < j then some (.int (i % j)) else none
  | _, _ => none
def dPow : D → D → Option D
  | .int i, .int j => if 0 ≤ j ∧ j ≤ 1000 ∧ 0 ≤ i ∧ i ≤ 1000 then some (.int (i ^ j.toNat)) else none
  | _, _ => none
def dNeg : D → Option D
  | .int i => some (.int (-i))
  | _ => none
def dAdd : D → D → Option D
  | .int i, .int j => some (.int (i + j))
  | .tup a, .tup b => if a.length + b.length ≤ 1000 then some (.tup (a ++ b)) else none
  | .lst a, .lst b => if a.length + b.length ≤ 100000 then some (.lst (a ++ b)) else none
  | _, _ => none
section
variable {c : Cf} {X : Cx}
theorem small_sz {n : Nat} (h : n ≤ 100000) : n ≤ sizeLine := Nat.le_trans h (by decide)
theorem op_addD (k : CfOk c X) : OpR X (binaryOp .Add) (rD c dAdd) := by
  intro pins s σ H x y v u Q I rx ry h
  obtain ⟨F, d1, d2, d, sub, nt, f1, f2, e, q⟩ := h
  unfold dAdd at e
  split at e
  · cases e
    cases f1; cases f2
    exact op_add pins s σ H _ _ v u Q I rx ry ⟨_, _, rfl, rfl, q _ _ F (Nx.stay sub nt (Ex.refl H)) (.int _)⟩
  · rename_i a b
    split at e <;> cases e
    rename_i hz
    have f1' := f1
    have f2' := f2
    cases f1 with
    | @tup p xs _ h1 g1 =>
    cases f2 with
    | @tup r ys _ h2 g2 =>
    have l1 := g1.length
    have l2 := g2.length
    rw [k.K] at h1 h2
    refine op_catA pins s σ H _ _ v u Q I rx ry ⟨p, r, xs, ys, rfl, rfl, sub.sqT h1, sub.sqT h2, small_sz (by omega), fun ex => ?_, fun ex ey => ?_, fun ex ey z hz => ?_⟩
    · subst ex
      have : a = [] := by simpa using l1.symm
      subst this
      exact q _ _ F (Nx.stay sub nt (Ex.refl H)) (by simpa using f2')
    · subst ey
      have : b = [] := by simpa using l2.symm
      subst this
      exact q _ _ F (Nx.stay sub nt (Ex.refl H)) (by simpa using f1')
    · have n := Nx.lay (c := c) (ad := none) (o := .tup (xs ++ ys)) sub nt hz (by intro ps z; cases z)
      exact q _ _ _ n (.tup (.inl (.inl upd_same)) ((g1.append g2).mono n.fe))
  · rename_i a b
    split at e <;> cases e
    rename_i hz
    cases f1 with
    | @lst p xs _ h1 g1 =>
    cases f2 with
    | @lst r ys _ h2 g2 =>
    have l1 := g1.length
    have l2 := g2.length
    refine op_cat pins s σ H _ _ v u Q I rx ry ⟨p, r, xs, ys, rfl, rfl, sub _ _ h1, sub _ _ h2, small_sz (by omega), fun z hz => ?_⟩
    have n := Nx.lay (c := c) (ad := none) (o := .lst (xs ++ ys)) sub nt hz (by intro ps z; cases z)
    exact q _ _ _ n (.lst upd_same ((g1.append g2).mono n.fe))
  · cases e
theorem op_subD : OpR X (binaryOp .Sub) (rD c dSub) := by
  intro pins s σ H x y v u Q I rx ry h
  obtain ⟨F, d1, d2, d, sub, nt, f1, f2, e, q⟩ := h
  unfold dSub at e
  split at e <;> cases e
  cases f1; cases f2
  exact op_sub pins s σ H _ _ v u Q I rx ry ⟨_, _, rfl, rfl, q _ _ F (Nx.stay sub nt (Ex.refl H)) (.int _)⟩
theorem op_mulD : OpR X (binaryOp .Mult) (rD c dMul) := by
  intro pins s σ H x y v u Q I rx ry h
  obtain ⟨F, d1, d2, d, sub, nt, f1, f2, e, q⟩ := h
  unfold dMul at e
  split at e <;> try (cases e)
  split at e <;> cases e
  rename_i hz
  cases f1; cases f2
  exact op_mulW pins s σ H _ _ v u Q I rx ry ⟨_, _, rfl, rfl, hz, q _ _ F (Nx.stay sub nt (Ex.refl H)) (.int _)⟩
theorem op_divD : OpR X (binaryOp .FloorDiv) (rD c dDiv) := by
  intro pins s σ H x y v u Q I rx ry h
  obtain ⟨F, d1, d2, d, sub, nt, f1, f2, e, q⟩ := h
  unfold dDiv at e
  split at e <;> try (cases e)
  split at e <;> cases e
  rename_i hz
  cases f1; cases f2
  exact op_fdivW pins s σ H _ _ v u Q I rx ry ⟨_, _, rfl, rfl, hz, q _ _ F (Nx.stay sub nt (Ex.refl H)) (.int _)⟩
theorem op_modD : OpR X (binaryOp .Mod) (rD c dMod) := by
  intro pins s σ H x y v u Q I rx ry h
  obtain ⟨F, d1, d2, d, sub, nt, f1, f2, e, q⟩ := h
  unfold dMod at e
  split at e <;> try (cases e)
  split at e <;> cases e
  rename_i hz
  cases f1; cases f2
  exact op_mod pins s σ H _ _ v u Q I rx ry ⟨_, _, rfl, rfl, hz, q _ _ F (Nx.stay sub nt (Ex.refl H)) (.int _)⟩
theorem op_powD : OpR X (binaryOp .Pow) (rD c dPow) := by
  intro pins s σ H x y v u Q I rx ry h
  obtain ⟨F, d1, d2, d, sub, nt, f1, f2, e, q⟩ := h
  unfold dPow at e
  split at e <;> try (cases e)
  split at e <;> cases e
  rename_i hz
  cases f1; cases f2
  exact op_pow pins s σ H _ _ v u Q I rx ry ⟨_, _, rfl, rfl, ⟨hz.1, by omega, by omega⟩, q _ _ F (Nx.stay sub nt (Ex.refl H)) (.int _)⟩
theorem un_negD : UnR X (unaryOp .USub) (rD1 c dNeg) := by
  intro pins s σ H x v Q I rx h
  obtain ⟨F, d1, d, sub, nt, f1, e, q⟩ := h
  unfold dNeg at e
  split at e <;> cases e
  cases f1
  exact un_neg pins s σ H _ v Q I rx ⟨_, rfl, q _ _ F (Nx.stay sub nt (Ex.refl H)) (.int _)⟩
/-! ### comparisons -/
def dLt : D → D → Option D
  | .int i, .int j => some (.bl (decide (i < j)))
  | _, _ => none
def dLe : D → D → Option D
  | .int i, .int j => some (.bl (decide (i ≤ j)))
  | _, _ => none
def dGt : D → D → Option D
  | .int i, .int j => some (.bl (decide (j < i)))
  | _, _ => none
def dGe : D → D → Option D
  | .int i, .int j => some (.bl (decide (j ≤ i)))
  | _, _ => none
def dLtT : D → D → Option D
  | .tup a, .tup b => if ok (.tup a) = true ∧ ok (.tup b) = true ∧ PySem.W.alike (toPy (.tup a)) (toPy (.tup b)) = true then some (.bl (PySem.W.dataLt (toPy (.tup a)) (toPy (.tup b)))) else none
  | _, _ => none
def dEq (a b : D) : Option D := if ok a = true ∧ ok b = true then some (.bl ((toPy a).eqv (toPy b))) else none
def dNe (a b : D) : Option D := if ok a = true ∧ ok b = true then some (.bl (!(toPy a).eqv (toPy b))) else none
def dIs : D → D → Option D
  | .non, .non => some (.bl true)
  | .int _, .non => some (.bl false)
  | .str _, .non => some (.bl false)
  | .tup _, .non => some (.bl false)
  | _, _ => none
def dIsNot : D → D → Option D
  | .non, .non => some (.bl false)
  | .int _, .non => some (.bl true)
  | .str _, .non => some (.bl true)
  | .tup _, .non => some (.bl true)
  | _, _ => none
theorem op_ltD : OpR X (compareOp .Lt) (rD c dLt) := by
  intro pins s σ H x y v u Q I rx ry h
  obtain ⟨F, d1, d2, d, sub, nt, f1, f2, e, q⟩ := h
  unfold dLt at e
  split at e <;> cases e
  cases f1; cases f2
  exact op_lt pins s σ H _ _ v u Q I rx ry ⟨_, _, rfl, rfl, q _ _ F (Nx.stay sub nt (Ex.refl H)) (.bl _)⟩
theorem op_leD : OpR X (compareOp .LtE) (rD c dLe) := by
  intro pins s σ H x y v u Q I rx ry h
  obtain ⟨F, d1, d2, d, sub, nt, f1, f2, e, q⟩ := h
  unfold dLe at e
  split at e <;> cases e
  cases f1; cases f2
  exact op_le pins s σ H _ _ v u Q I rx ry ⟨_, _, rfl, rfl, q _ _ F (Nx.stay sub nt (Ex.refl H)) (.bl _)⟩
theorem op_gtD : OpR X (compareOp .Gt) (rD c dGt) := by
  intro pins s σ H x y v u Q I rx ry h
  obtain ⟨F, d1, d2, d, sub, nt, f1, f2, e, q⟩ := h
  unfold dGt at e
  split at e <;> cases e
  cases f1; cases f2
  exact op_gt pins s σ H _ _ v u Q I rx ry ⟨_, _, rfl, rfl, q _ _ F (Nx.stay sub nt (Ex.refl H)) (.bl _)⟩
theorem op_geD : OpR X (compareOp .GtE) (rD c dGe) := by
  intro pins s σ H x y v u Q I rx ry h
  obtain ⟨F, d1, d2, d, sub, nt, f1, f2, e, q⟩ := h
  unfold dGe at e
  split at e <;> cases e
  cases f1; cases f2
  exact op_ge pins s σ H _ _ v u Q I rx ry ⟨_, _, rfl, rfl, q _ _ F (Nx.stay sub nt (Ex.refl H)) (.bl _)⟩
theorem ok_and {d : D} (h : ok d = true) : pOk d = true ∧ SeqAt.shaped (toPy d) = true := by unfold ok at h; simpa using h
theorem op_ltTD (k : CfOk c X) (hu : X.A.units + 64 < cLine) : OpR X (compareOp .Lt) (rD c dLtT) := by
  intro pins s σ H x y v u Q I rx ry h
  obtain ⟨F, d1, d2, d, sub, nt, f1, f2, e, q⟩ := h
  unfold dLtT at e
  split at e <;> try (cases e)
  split at e <;> cases e
  rename_i a b hz
  obtain ⟨z1, z2, z3⟩ := hz
  have e1 := f1.dp sub (ok_and z1).1
  have e2 := f2.dp sub (ok_and z2).1
  rw [k.K] at e1 e2
  obtain ⟨as, r1⟩ := Dp.reads I _ _ _ e1 rx
  obtain ⟨bs, r2⟩ := Dp.reads I _ _ _ e2 ry
  refine PySem.W.rcLt_alike _ _ X.A s v u as bs r1 r2 z3 (by rw [toPy]; intro z; cases z) (SeqAt.room_of_shaped (ok_and z1).2 hu) X.prog X.w X.xe _ ?_
  exact ⟨.bl _, H, I, rfl, q _ _ F (Nx.stay sub nt (Ex.refl H)) (.bl _)⟩
theorem op_eqDD (k : CfOk c X) (hu : X.A.units + 64 < cLine) : OpR X (compareOp .Eq) (rD c dEq) := by
  intro pins s σ H x y v u Q I rx ry h
  obtain ⟨F, d1, d2, d, sub, nt, f1, f2, e, q⟩ := h
  unfold dEq at e
  split at e <;> cases e
  rename_i hz
  have e1 := f1.dp sub (ok_and hz.1).1
  have e2 := f2.dp sub (ok_and hz.2).1
  rw [k.K] at e1 e2
  exact op_eqD hu pins s σ H _ _ v u Q I rx ry ⟨_, _, e1, e2, (ok_and hz.1).2, (ok_and hz.2).2, q _ _ F (Nx.stay sub nt (Ex.refl H)) (.bl _)⟩
theorem op_neDD (k : CfOk c X) (hu : X.A.units + 64 < cLine) : OpR X (compareOp .NotEq) (rD c dNe) := by
  intro pins s σ H x y v u Q I rx ry h
  obtain ⟨F, d1, d2, d, sub, nt, f1, f2, e, q⟩ := h
  unfold dNe at e
  split at e <;> cases e
  rename_i hz
  have e1 := f1.dp sub (ok_and hz.1).1
  have e2 := f2.dp sub (ok_and hz.2).1
  rw [k.K] at e1 e2
  exact op_neD hu pins s σ H _ _ v u Q I rx ry ⟨_, _, e1, e2, (ok_and hz.1).2, (ok_and hz.2).2, q _ _ F (Nx.stay sub nt (Ex.refl H)) (.bl _)⟩
theorem op_isD : OpR X (compareOp .Is) (rD c dIs) := by
  intro pins s σ H x y v u Q I rx ry h
  obtain ⟨F, d1, d2, d, sub, nt, f1, f2, e, q⟩ := h
  unfold dIs at e
  split at e <;> cases e <;> cases f2 <;> cases f1 <;>
    exact op_isN pins s σ H _ _ v u Q I rx ry ⟨rfl, q _ _ F (Nx.stay sub nt (Ex.refl H)) (.bl _)⟩
theorem op_isNotD : OpR X (compareOp .IsNot) (rD c dIsNot) := by
  intro pins s σ H x y v u Q I rx ry h
  obtain ⟨F, d1, d2, d, sub, nt, f1, f2, e, q⟩ := h
  unfold dIsNot at e
  split at e <;> cases e <;> cases f2 <;> cases f1 <;>
    exact op_notN pins s σ H _ _ v u Q I rx ry ⟨rfl, q _ _ F (Nx.stay sub nt (Ex.refl H)) (.bl _)⟩
/-! ### in -/
def inD (a : D) : D → Option Bool
  | .lst ds => if ok a = true ∧ ok (.lst ds) = true then some (ds.any fun z => (toPy z).eqv (toPy a)) else none
  | .tup ds => match a with
    | .int i => if ds.all (fun z => match z with | .int _ => true | _ => false) = true then some (ds.any fun z => match z with | .int j => decide (j = i) | _ => false) else none
    | _ => none
  | _ => none
def dIn (a b : D) : Option D := (inD a b).map D.bl
def dNotIn (a b : D) : Option D := (inD a b).map fun r => D.bl (!r)
theorem any_toPys (a : PyData) : ∀ ds : List D, ((toPys ds).any fun z => PyData.eqv z a) = ds.any fun z => (toPy z).eqv a
  | [] => by simp [toPys]
  | d :: ds => by simp [toPys, any_toPys a ds]
theorem ints_of {F : Hp} : ∀ {ds : List D} {xs : List V}, FDs c F xs ds → ds.all (fun z => match z with | .int _ => true | _ => false) = true → xs.all flatV = true ∧ ∀ i : Int, inV (.int i) xs = ds.any fun z => match z with | .int j => decide (j = i) | _ => false
  | [], _, .nil, _ => ⟨rfl, fun i => rfl⟩
  | d :: ds, _, .cons (x := x) (xs := xs) a t, h => by
    rw [List.all_cons, Bool.and_eq_true] at h
    obtain ⟨h1, h2⟩ := ints_of t h.2
    cases d <;> simp at h
    cases a
    rename_i j
    refine ⟨by rw [List.all_cons, h1]; rfl, fun i => ?_⟩
    have h3 := h2 i
    unfold inV at h3 ⊢
    rw [List.any_cons, List.any_cons, h3]
    rfl
theorem op_inDD (k : CfOk c X) (hu : X.A.units + 65 < cLine) : OpR X (compareOp .In) (rD c dIn) := by
  intro pins s σ H x y v u Q I rx ry h
  obtain ⟨F, d1, d2, d, sub, nt, f1, f2, e, q⟩ := h
  unfold dIn at e
  obtain ⟨b, e, rfl⟩ := Option.map_eq_some_iff.mp e
  unfold inD at e
  split at e
  · rename_i ds
    split at e <;> cases e
    rename_i hz
    have e1 := f1.dp sub (ok_and hz.1).1
    have e2 := f2.dp sub (ok_and hz.2).1
    rw [k.K] at e1 e2
    rw [toPy] at e2
    refine op_inD hu pins s σ H _ _ v u Q I rx ry ⟨_, _, e1, e2, (ok_and hz.1).2, by have := (ok_and hz.2).2; rwa [toPy] at this, ?_⟩
    rw [any_toPys]
    exact q _ _ F (Nx.stay sub nt (Ex.refl H)) (.bl _)
  · rename_i ds
    split at e <;> try (cases e)
    split at e <;> cases e
    rename_i i hz
    cases f1
    cases f2 with
    | @tup a xs _ h1 g =>
    obtain ⟨g1, g2⟩ := ints_of g hz
    rw [k.K] at h1
    refine op_in_seq pins s σ H _ _ v u Q I rx ry ⟨a, xs, rfl, .inr (sub.sqT h1), rfl, g1, ?_⟩
    rw [if_neg Bool.false_ne_true, g2 i]
    exact q _ _ F (Nx.stay sub nt (Ex.refl H)) (.bl _)
  · cases e
theorem op_notInDD (k : CfOk c X) (hu : X.A.units + 65 < cLine) : OpR X (compareOp .NotIn) (rD c dNotIn) := by
  intro pins s σ H x y v u Q I rx ry h
  obtain ⟨F, d1, d2, d, sub, nt, f1, f2, e, q⟩ := h
  unfold dNotIn at e
  obtain ⟨b, e, e'⟩ := Option.map_eq_some_iff.mp e
  unfold inD at e
  split at e
  · rename_i ds
    split at e <;> try (cases e; done)
    rename_i hz
    injection e with e
    subst e
    subst e'
    have e1 := f1.dp sub (ok_and hz.1).1
    have e2 := f2.dp sub (ok_and hz.2).1
    rw [k.K] at e1 e2
    rw [toPy] at e2
    refine op_notInD hu pins s σ H _ _ v u Q I rx ry ⟨_, _, e1, e2, (ok_and hz.1).2, by have := (ok_and hz.2).2; rwa [toPy] at this, ?_⟩
    rw [any_toPys]
    exact q _ _ F (Nx.stay sub nt (Ex.refl H)) (.bl _)
  · rename_i ds
    split at e <;> try (cases e; done)
    split at e <;> try (cases e; done)
    rename_i i hz
    injection e with e
    subst e
    subst e'
    cases f1
    cases f2 with
    | @tup a xs _ h1 g =>
    obtain ⟨g1, g2⟩ := ints_of g hz
    rw [k.K] at h1
    refine op_notIn_seq pins s σ H _ _ v u Q I rx ry ⟨a, xs, rfl, .inr (sub.sqT h1), rfl, g1, ?_⟩
    rw [if_pos rfl, g2 i]
    exact q _ _ F (Nx.stay sub nt (Ex.refl H)) (.bl _)
  · cases e
end
end Dl
namespace Dl
open PySem PySem.Spec PyProof.Rows L2
/-! ### dicts whose keys are tuples -/
section
variable {c : Cf} {X : Cx} {pins : List (Addr × Obj)} {σ : L2.St} {H F : Hp} {s : Shared}
theorem depth_keys {n : Nat} : ∀ {ds : List D}, (∀ d ∈ ds, (toKey d).depth ≤ n) → NestedKey.depthAll (toKeys ds) ≤ n
  | [], _ => by simp [toKeys, NestedKey.depthAll]
  | d :: ds, h => by
    rw [toKeys, NestedKey.depthAll]
    exact Nat.max_le.mpr ⟨h d (by simp), depth_keys fun x hx => h x (by simp [hx])⟩
theorem FD.nested (k : CfOk c X) (I : Inv X pins σ H s) (sub : Ex F H) : ∀ (n : Nat) {d : D} {v : V} {u : Value}, FD c F v d → kOk n d = true → RelV v u → NestedIs s.heap (toKey d) u ∧ (toKey d).depth ≤ n
  | n, .int i, _, _, .int _, _, r => by
    obtain ⟨t, rfl⟩ := r
    rw [toKey]
    exact ⟨.int i t, by simp [NestedKey.depth]⟩
  | 0, .tup ds, _, _, f, h, _ => by simp [kOk] at h
  | n + 1, .tup ds, _, u, .tup (a := a) (xs := xs) h1 h2, h, r => by
    have r : u = Value.ref a := r
    subst r
    rw [k.K] at h1
    obtain ⟨its, rv, ⟨o, ho, hc, m, hd⟩, _⟩ := I.tuple (sub.sqT h1)
    have hall : ∀ d ∈ ds, kOk n d = true := by
      have : ds.all (kOk n) = true := by simpa [kOk] using h
      exact List.all_eq_true.mp this
    have go : ∀ {ds : List D} {xs : List V} {its : List Value}, FDs c F xs ds → (∀ d ∈ ds, kOk n d = true) → Vals xs its → NestedAll s.heap (toKeys ds) its ∧ ∀ d ∈ ds, (toKey d).depth ≤ n := by
      intro ds
      induction ds with
      | nil =>
        intro xs its f _ r
        cases f
        cases r
        rw [toKeys]
        exact ⟨.nil, fun d hd => by simp at hd⟩
      | cons d ds ih =>
        intro xs its f hk r
        cases f with
        | cons f1 f2 =>
        cases r with
        | cons r1 r2 =>
        obtain ⟨q1, q2⟩ := FD.nested k I sub n f1 (hk d (by simp)) r1
        obtain ⟨q3, q4⟩ := ih f2 (fun x hx => hk x (by simp [hx])) r2
        rw [toKeys]
        exact ⟨.cons q1 q3, fun x hx => by
          rcases List.mem_cons.mp hx with rfl | hx
          · exact q2
          · exact q4 x hx⟩
    obtain ⟨g1, g2⟩ := go h2 hall rv
    rw [toKey]
    refine ⟨.tup ho hc hd (by simpa using g1), ?_⟩
    rw [NestedKey.depth]
    have := depth_keys g2
    omega
  | n, .non, _, _, _, h, _ => by cases n <;> simp [kOk] at h
  | n, .bl _, _, _, _, h, _ => by cases n <;> simp [kOk] at h
  | n, .str _, _, _, _, h, _ => by cases n <;> simp [kOk] at h
  | n, .ty _, _, _, _, h, _ => by cases n <;> simp [kOk] at h
  | n, .cls _, _, _, _, h, _ => by cases n <;> simp [kOk] at h
  | n, .hand _, _, _, _, h, _ => by cases n <;> simp [kOk] at h
  | n, .lst _, _, _, _, h, _ => by cases n <;> simp [kOk] at h
  | n, .dic _ _, _, _, _, h, _ => by cases n <;> simp [kOk] at h
  | n, .obj _ _, _, _, _, h, _ => by cases n <;> simp [kOk] at h
  | n, .lam _ _ _ _, _, _, _, h, _ => by cases n <;> simp [kOk] at h
  | n, .setD _, _, _, _, h, _ => by cases n <;> simp [kOk] at h
  | n, .pin _, _, _, _, h, _ => by cases n <;> simp [kOk] at h
  | n, .ptup _, _, _, _, h, _ => by cases n <;> simp [kOk] at h
abbrev EsR : List (NestedKey × Addr × V) → List (NestedKey × Addr × Value) → Prop := Paired (fun (x : NestedKey × Addr × V) (y : NestedKey × Addr × Value) => x.1 = y.1 ∧ x.2.1 = y.2.1 ∧ RelV x.2.2 y.2.2)
theorem EsR.length {es : List (NestedKey × Addr × V)} {xs : List (NestedKey × Addr × Value)} (h : EsR es xs) : es.length = xs.length := Paired.length h
/-- the keys of a dict stand -/
theorem keys_are (k : CfOk c X) (I : Inv X pins σ H s) (sub : Ex F H) : ∀ {es : List (NestedKey × Addr × V)} {kvs : List (D × D)} {xs : List (NestedKey × Addr × Value)}, FDk c F es kvs → EsR es xs → ∀ x ∈ xs, (nestedKind X.prog X.w).is s.heap x.1 x.2.1
  | _, _, _, .nil, .nil => fun x hx => by simp at hx
  | _, _, _, .cons k1 k2 a b t, .cons r rr => fun x hx => by
    rcases List.mem_cons.mp hx with rfl | hx
    · obtain ⟨r1, r2, r3⟩ := r
      subst k2
      have := FD.nested k I sub 8 a k1 (u := Value.ref _) rfl
      rw [← r1, ← r2]
      exact this
    · exact keys_are k I sub t rr x hx
theorem dN_at (k : CfOk c X) (I : Inv X pins σ H s) (sub : Ex F H) {p : Addr} {es : List (NestedKey × Addr × V)} {kvs : List (D × D)} (h : Rd H p (dN c p es)) (f : FDk c F es kvs) :
    ∃ xs, EsR es xs ∧ s.heap.DictOfH (nestedKind X.prog X.w) p xs ∧ (p == sysModules) = false ∧ es.length ≤ sizeLine := by
  have z := h.ok I.hok
  unfold dN at z
  obtain ⟨⟨z1, z2, xs, z3, o, de, ep, z4, z5, z6, z7, z8⟩, _, _⟩ := z
  rw [k.P, k.w] at z7
  exact ⟨xs, z3, ⟨o, de, ep, z4, z5, z6, z7, keys_are k I sub f z3, z8⟩, z2, z1⟩
theorem dN_new (k : CfOk c X) {h : Heap} {p : Addr} {es : List (NestedKey × Addr × V)} {xs : List (NestedKey × Addr × Value)} (z1 : es.length ≤ sizeLine) (z2 : (p == sysModules) = false) (r : EsR es xs) (d : h.DictOfH (nestedKind X.prog X.w) p xs) : ObjOk X.prog X.w H h p (dN c p es) := by
  obtain ⟨o, de, ep, z4, z5, z6, z7, _, z8⟩ := d
  unfold dN
  refine ⟨⟨z1, z2, xs, r, o, de, ep, z4, z5, z6, by rw [k.P, k.w]; exact z7, z8⟩, ⟨o, z4⟩, ?_⟩
  rintro h1 h2 ⟨a1, a2, xs', a3, o', de', ep', a4, a5⟩ q
  exact ⟨a1, a2, xs', a3, o', de', ep', q _ a4, a5⟩
def lookD (kvs : List (D × D)) (k : D) : Option D := (kvs.find? fun p => decide (toKey p.1 = toKey k)).map (·.2)
theorem look_at {kd : NestedKey} : ∀ {es : List (NestedKey × Addr × V)} {kvs : List (D × D)} {xs : List (NestedKey × Addr × Value)}, FDk c F es kvs → EsR es xs →
    (∀ d, (kvs.find? fun p => decide (toKey p.1 = kd)).map (·.2) = some d → ∃ v a u, (xs.find? fun x => decide (x.1 = kd)).map (·.2) = some (a, u) ∧ RelV v u ∧ FD c F v d) ∧
    ((kvs.find? fun p => decide (toKey p.1 = kd)).map (·.2) = none → (xs.find? fun x => decide (x.1 = kd)).map (·.2) = none)
  | _, _, _, .nil, .nil => ⟨fun d h => by simp at h, fun _ => rfl⟩
  | _, _, _, .cons (k := kk) (d := dd) k1 k2 a b t, .cons (b := y) r rr => by
    obtain ⟨r1, r2, r3⟩ := r
    obtain ⟨i1, i2⟩ := look_at (kd := kd) t rr
    obtain ⟨y1, y2, y3⟩ := y
    have r1 : _ = y1 := r1
    have r2 : _ = y2 := r2
    have r3 : RelV _ y3 := r3
    subst k2
    subst r1
    by_cases e : toKey kk = kd
    · simp only [List.find?_cons, e, decide_true]
      exact ⟨fun d hd => by simp at hd; subst hd; exact ⟨_, _, _, rfl, r3, b⟩, fun z => by simp at z⟩
    · simp only [List.find?_cons, e, decide_false]
      exact ⟨i1, i2⟩
/-! operations -/
def dIxN : D → D → Option D
  | .dic _ kvs, .tup ks => if kOk 8 (.tup ks) = true then lookD kvs (.tup ks) else none
  | _, _ => none
theorem FD.keyIs (k : CfOk c X) (I : Inv X pins σ H s) (sub : Ex F H) {a : Addr} {d : D} (f : FD c F (.ref a) d) (h : kOk 8 d = true) : (nestedKind X.prog X.w).is s.heap (toKey d) a := FD.nested k I sub 8 f h (u := Value.ref a) rfl
theorem getItemN (k : CfOk c X) (hu : X.A.units + 64 < cLine) {x y : V} {v u : Value} {Q : VK} (I : Inv X pins σ H s) (rx : RelV x v) (ry : RelV y u) (h : rD c dIxN x y H Q) : s.TypeIs v "dict" ∧ wpAny (model X.prog X.w) X.A (getItem v u) (EP X pins σ Q) X.xe s := by
  obtain ⟨F, d1, d2, d, sub, nt, f1, f2, e, q⟩ := h
  unfold dIxN at e
  split at e <;> try (cases e; done)
  rename_i zb kvs ks
  split at e <;> try (cases e; done)
  rename_i hk
  obtain ⟨p, es, rfl, hp, fk⟩ := f1.dic_inv
  have rx : v = Value.ref p := rx
  subst rx
  obtain ⟨xs, r, dd, z1, z2⟩ := dN_at k I sub (sub.rd hp) fk
  have f2' := f2
  cases f2 with
  | @tup a ys _ h1 h2 =>
  have ry : u = Value.ref a := ry
  subst ry
  obtain ⟨w, a', u', q1, q2, q3⟩ := (look_at (kd := toKey (.tup ks)) fk r).1 d e
  refine ⟨dd.typeIs, ?_⟩
  refine wpAny_getItem_heap (by show X.A.units + 1 + 8 < cLine; omega) (FD.keyIs k I sub f2' hk) dd (p := (a', u')) q1 ?_
  exact ⟨w, H, I.tok _, q2, q w H F (Nx.stay sub nt (Ex.refl H)) q3⟩
/-- d[k] -/
theorem pe_ixN (k : CfOk c X) (hu : X.A.units + 64 < cLine) {o i : Expr} {td ty : TE} {pos : Pos} (ho : PE X o td) (hi : PE X i ty) (hs : NoSl i) : PE X (.Subscript o i pos) (tOp (rD c dIxN) td ty) := by
  refine ⟨fun pins s σ H Q I h => ?_⟩
  refine subD_of PySem.F.slot_dict_getitem.lookup hs (thn (ho.run pins s σ H _ I h) fun u s1 ⟨x, H1, I1, rx, q1⟩ => thn (hi.run pins s1 σ H1 _ I1 q1) fun iv s2 ⟨y, H2, I2, ry, q2⟩ => ?_)
  exact getItemN k hu I2 rx ry q2
/-- k in d -/
def dInN : D → D → Option D
  | .tup ks, .dic _ kvs => if kOk 8 (.tup ks) = true then some (.bl (lookD kvs (.tup ks)).isSome) else none
  | _, _ => none
def dNotInN : D → D → Option D
  | .tup ks, .dic _ kvs => if kOk 8 (.tup ks) = true then some (.bl (!(lookD kvs (.tup ks)).isSome)) else none
  | _, _ => none
theorem look_some (k : D) {es : List (NestedKey × Addr × V)} {kvs : List (D × D)} {xs : List (NestedKey × Addr × Value)} (f : FDk c F es kvs) (r : EsR es xs) : (atKey xs (toKey k)).isSome = (lookD kvs k).isSome := by
  obtain ⟨h1, h2⟩ := look_at (kd := toKey k) f r
  unfold lookD atKey
  cases q : (kvs.find? fun p => decide (toKey p.1 = toKey k)).map (·.2) with
  | none => rw [h2 q]; rfl
  | some d =>
    obtain ⟨_, _, _, e, _⟩ := h1 d q
    rw [e]
    rfl
theorem op_notInN (k : CfOk c X) (hu : X.A.units + 64 < cLine) : OpR X (compareOp .NotIn) (rD c dNotInN) := by
  intro pins s σ H x y v u Q I rx ry h
  obtain ⟨F, d1, d2, d, sub, nt, f1, f2, e, q⟩ := h
  unfold dNotInN at e
  split at e <;> try (cases e; done)
  rename_i ks zb kvs
  split at e <;> try (cases e; done)
  rename_i hk
  injection e with e
  subst e
  obtain ⟨p, es, rfl, hp, fk⟩ := f2.dic_inv
  have ry : u = Value.ref p := ry
  subst ry
  obtain ⟨xs, r, dd, z1, z2⟩ := dN_at k I sub (sub.rd hp) fk
  have f1' := f1
  cases f1 with
  | @tup a ys _ h1 h2 =>
  have rx : v = Value.ref a := rx
  subst rx
  refine notIn_keyed (knd := nestedKind X.prog X.w) (k := toKey (.tup ks)) (by show X.A.units + 1 + 8 < cLine; omega) (FD.keyIs k I sub f1' hk) z1 ⟨xs, dd, rfl⟩ ?_
  rw [valueAt_pairsH, Option.isSome_map, look_some (.tup ks) fk r]
  exact ⟨.bl _, H, I.tok _, rfl, q _ H F (Nx.stay sub nt (Ex.refl H)) (.bl _)⟩
/-- d.get(k, x) -/
def dGetN : List D → Option D
  | [.dic _ kvs, .tup ks, x] => if kOk 8 (.tup ks) = true then some ((lookD kvs (.tup ks)).getD x) else none
  | _ => none
def IsN (c : Cf) (x : V) (H : Hp) : Prop := ∃ p es, x = .ref p ∧ Rd H p (dN c p es)
def tGetN (c : Cf) (td ty tx : TE) : TE := fun σ H Q => td σ H fun x H1 => IsN c x H1 ∧ ty σ H1 fun y H2 => tx σ H2 fun z H3 => rDs c dGetN [x, y, z] H3 Q
theorem IsN.at (k : CfOk c X) (I : Inv X pins σ H s) {x : V} {u : Value} (r : RelV x u) (h : IsN c x H) : s.TypeIs u "dict" ∧ ∀ b, u = .ref b → ∃ ob, s.heap.get? b = some ob ∧ ob.dict = none := by
  obtain ⟨p, es, rfl, hp⟩ := h
  have r : u = Value.ref p := r
  subst r
  have z := hp.ok I.hok
  unfold dN at z
  obtain ⟨⟨z1, z2, xs, z3, ob, de, ep, z4, z5, z6, z7, z8⟩, _, _⟩ := z
  exact ⟨⟨ob, z4, z5.1⟩, fun b hb => by cases hb; exact ⟨ob, z4, z5.2.1⟩⟩
theorem pe_getN (k : CfOk c X) (hu : X.A.units + 64 < cLine) {o e f : Expr} {apos cpos : Pos} {td ty tx : TE} (ho : PE X o td) (he : PE X e ty) (hf : PE X f tx) (m : M2 X o "get" apos e f cpos) :
    PE X (.Call (.Attribute o "get" apos) [e, f] [] cpos) (tGetN c td ty tx) := by
  refine ⟨fun pins s σ H Q I h => ?_⟩
  refine wpAny_Call_method m.base m.few m.line PySem.F.plainAttrs_dict PySem.F.slot_dict_get PySem.F.type_dict_get (thn (ho.run pins s σ H _ I h) fun u s1 ⟨x, H1, I1, rx, hn, q1⟩ => ?_)
  obtain ⟨t1, t2⟩ := hn.at k I1 rx
  refine ⟨t1, t2, ?_⟩
  rw [m.trees]
  refine Calls.callWith_builtin rfl (Calls.evalArgs_plain (Calls.spliced_cons (thn (he.run pins s1 σ H1 _ I1 q1) fun iv s2 ⟨y, H2, I2, ry, q2⟩ =>
    Calls.spliced_cons (thn (hf.run pins s2 σ H2 _ I2 q2) fun fv s3 ⟨z, H3, I3, rz, q3⟩ => Calls.spliced_nil ?_))))
  obtain ⟨F, ds, d, sub, nt, fs, e, q⟩ := q3
  unfold dGetN at e
  split at e <;> try (cases e; done)
  rename_i zb kvs ks dx
  split at e <;> try (cases e; done)
  rename_i hk
  injection e with e
  subst e
  cases fs with
  | cons f1 fs =>
  cases fs with
  | cons f2 fs =>
  cases fs with
  | cons f3 fs =>
  obtain ⟨p, es, rfl, hp, fk⟩ := f1.dic_inv
  have rx : u = Value.ref p := rx
  subst rx
  obtain ⟨xs, r, dd, z1, z2⟩ := dN_at k I3 sub (sub.rd hp) fk
  have f2' := f2
  cases f2 with
  | @tup a ys _ h1 h2 =>
  have ry : iv = Value.ref a := ry
  subst ry
  refine getOr_keyed (knd := nestedKind X.prog X.w) (k := toKey (.tup ks)) (by show X.A.units + 1 + 8 < cLine; omega) (FD.keyIs k I3 sub f2' hk) z1 ⟨xs, dd, rfl⟩ ?_
  rw [valueAt_pairsH]
  obtain ⟨l1, l2⟩ := look_at (kd := toKey (.tup ks)) fk r
  unfold lookD at q
  unfold atKey
  cases g : (kvs.find? fun p => decide (toKey p.1 = toKey (.tup ks))).map (·.2) with
  | none =>
    rw [g] at q
    rw [l2 g]
    exact ⟨z, H3, I3.tok _, rz, q z H3 F (Nx.stay sub nt (Ex.refl H3)) f3⟩
  | some dd' =>
    rw [g] at q
    obtain ⟨w, a', u', q1', q2', q3'⟩ := l1 dd' g
    rw [q1']
    exact ⟨w, H3, I3.tok _, q2', q w H3 F (Nx.stay sub nt (Ex.refl H3)) q3'⟩
def eGet (fd fk fx : EDn) : EDn := fun Γ hs => (fd Γ hs).bind fun r1 => match r1.1 with
  | .dic z kvs => (fk Γ r1.2).bind fun r2 => (fx Γ r2.2).bind fun r3 => (dGetN [.dic z kvs, r2.1, r3.1]).map fun d => (d, r3.2)
  | _ => none
theorem snd_getN {td ty tx : TE} {fd fk fx : EDn} (h1 : Snd c td fd) (h2 : Snd c ty fk) (h3 : Snd c tx fx) : Snd c (tGetN c td ty tx) (eGet fd fk fx) := by
  intro B hs Γ tmp σ H D0 d hs' e Q q
  unfold eGet at e
  obtain ⟨⟨d1, hs1⟩, e1, e⟩ := Option.bind_eq_some_iff.mp e
  split at e <;> try (cases e; done)
  rename_i zb kvs hd1
  have hd1 : d1 = .dic zb kvs := hd1
  subst hd1
  obtain ⟨⟨d2, hs2⟩, e2, e⟩ := Option.bind_eq_some_iff.mp e
  obtain ⟨⟨d3, hs3⟩, e3, e⟩ := Option.bind_eq_some_iff.mp e
  obtain ⟨d', e4, e⟩ := Option.map_eq_some_iff.mp e
  injection e with e5 e6
  subst e5
  subst e6
  refine h1 B hs Γ tmp σ H D0 _ hs1 e1 _ fun v1 H1 a1 D1 k1 => ⟨?_, ?_⟩
  · obtain ⟨F, ow, D1⟩ := D1
    obtain ⟨p, es, e, hp, _⟩ := (D1.tmp (.dic zb kvs, v1) (by simp)).dic_inv
    exact ⟨p, es, e, D1.sub.rd hp⟩
  refine h2 B hs1 Γ _ σ H1 D1 d2 hs2 e2 _ fun v2 H2 a2 D2 k2 => ?_
  refine h3 B hs2 Γ _ σ H2 D2 d3 hs3 e3 _ fun v3 H3 a3 D3 k3 => ?_
  rw [a1.ad] at k2
  rw [(a1.trans a2).ad] at k3
  obtain ⟨F, ow, D3⟩ := D3
  refine ⟨F, _, d', D3.sub, D3.nt, .cons (D3.tmp (_, v1) (by simp)) (.cons (D3.tmp (_, v2) (by simp)) (.cons (D3.tmp (_, v3) (by simp)) .nil)), e4, fun v H' F' n fv => ?_⟩
  exact q v H' ((a1.trans a2).trans a3) ⟨F', ow, ((D3.step n).push fv).drop (by intro p hp; simp at hp ⊢; rcases hp with h | h <;> simp [h])⟩ (k1.trans (k2.trans (k3.trans n.he.mono)))
/-- {} -/
theorem pe_newN (k : CfOk c X) {pos : Pos} : PE X (.Dict [] [] pos) (tDNew c) := by
  refine ⟨fun pins s σ H Q I h => ?_⟩
  refine wpAny_Dict_empty ?_
  have hn : H s.heap.objs.size = none := I.hok.fresh (Nat.le_refl _)
  refine ⟨.ref s.heap.objs.size, _, I.laid (t' := s.toks) (fun b o e => Heap.get?_push_of_some _ e) (Nat.le_refl _) ?_, rfl, h _ hn⟩
  exact dN_new k (Nat.zero_le _) (beq_eq_false_iff_ne.mpr (Nat.ne_of_gt I.big)) .nil (Heap.DictOfH.new s.heap)
/-- d[k] = v -/
theorem EsR.put {nk : NestedKey} {a : Addr} {v : V} {u : Value} (rv : RelV v u) : ∀ {es : List (NestedKey × Addr × V)} {xs : List (NestedKey × Addr × Value)}, EsR es xs →
    EsR (if es.any (fun x => decide (x.1 = nk)) then es.map (fun x => if x.1 = nk then (x.1, x.2.1, v) else x) else es ++ [(nk, a, v)]) (storedH xs nk a u) := by
  intro es xs r
  have h1 : ∀ {es : List (NestedKey × Addr × V)} {xs : List (NestedKey × Addr × Value)}, EsR es xs → es.any (fun x => decide (x.1 = nk)) = (atKey xs nk).isSome := by
    intro es xs r
    induction r with
    | nil => rfl
    | @cons x y xs' ys' r rr ih =>
      obtain ⟨r1, r2, r3⟩ := r
      rw [List.any_cons, ih]
      unfold atKey
      rw [List.find?_cons, ← r1]
      by_cases e : x.1 = nk
      · simp [e]
      · simp [e]
  have h2 : ∀ {es : List (NestedKey × Addr × V)} {xs : List (NestedKey × Addr × Value)}, EsR es xs → EsR (es.map (fun x => if x.1 = nk then (x.1, x.2.1, v) else x)) (xs.map (putAt nk u)) := by
    intro es xs r
    induction r with
    | nil => exact .nil
    | @cons x y xs' ys' r rr ih =>
      obtain ⟨r1, r2, r3⟩ := r
      rw [List.map_cons, List.map_cons]
      refine .cons ?_ ih
      unfold putAt
      rw [← r1]
      by_cases e : x.1 = nk
      · rw [if_pos e, if_pos e]
        exact ⟨rfl, r2, rv⟩
      · rw [if_neg e, if_neg e]
        exact ⟨r1, r2, r3⟩
  have h3 : ∀ {es : List (NestedKey × Addr × V)} {xs : List (NestedKey × Addr × Value)}, EsR es xs → EsR (es ++ [(nk, a, v)]) (xs ++ [(nk, a, u)]) := by
    intro es xs r
    induction r with
    | nil => exact .cons ⟨rfl, rfl, rv⟩ .nil
    | cons r rr ih => exact .cons r ih
  unfold storedH
  rw [h1 r]
  split
  · exact h2 r
  · exact h3 r
theorem put_len {nk : NestedKey} {a : Addr} {v : V} (es : List (NestedKey × Addr × V)) : (if es.any (fun x => decide (x.1 = nk)) then es.map (fun x => if x.1 = nk then (x.1, x.2.1, v) else x) else es ++ [(nk, a, v)]).length ≤ es.length + 1 := by
  split <;> simp
theorem set_N (k : CfOk c X) (hu : X.A.units + 64 < cLine) : PSet X (rPutN c) := by
  intro pins s σ H o i v ov iv u Q I ro ri rv h
  obtain ⟨p, es, kd, a, rfl, rfl, hp, ⟨F, kvs, sub, fa, fk⟩, hk, hz, q⟩ := h
  have ro : ov = Value.ref p := ro
  have ri : iv = Value.ref a := ri
  subst ro
  subst ri
  obtain ⟨xs, r, dd, z1, z2⟩ := dN_at k I sub (.inl hp) fk
  have hl := r.length
  refine wpAny_setItem_heap (hsz := by rw [← hl]; exact small_sz (by omega)) (by show X.A.units + 1 + 8 < cLine; omega) (FD.keyIs k I sub fa hk) dd fun h' hm hs => ?_
  obtain ⟨o', de, ep, g1, _⟩ := id hm
  exact ⟨_, I.write (o := dN c p _) (by rw [hp]; unfold dN; trivial) (.inl rfl) (fun b ob hb e => (hs.2 b hb).trans e) ⟨o', g1⟩ (dN_new k (Nat.le_trans (put_len (nk := toKey kd) (a := a) (v := v) es) (small_sz (by omega))) z1 (r.put rv) hm), q⟩
/-- d.clear() -/
def tClrN (c : Cf) (te : TE) : TS := fun D σ H => te σ H fun x H1 => ∃ p es F kvs, x = .ref p ∧ H1 p = some (dN c p es) ∧ Ex F H1 ∧ FDk c F es kvs ∧ D.nx σ (upd H1 p (dN c p []))
end
end Dl
/-! Sorting: lists, tuples, dicts' keys, sets, of ints, of tuples (the empty one among them), nested. -/
namespace Dl
open PySem PySem.W PySem.Calls PyProof.Rows SeqAt
section
variable {prog : Program} {w : World} {A : Around} {E : Value → Shared → Prop} {s : Shared}
/-- tuple's own __lt__ -/
theorem lt_tuples {Q : Value → Shared → Prop} {l b : Addr} {items items2 : Array Value} {e r : Nat → Bool} (hl : s.heap.IsTuple l items) (hb : s.heap.IsTuple b items2)
    (he : ∀ j (h1 : j < items.size) (h2 : j < items2.size), EqAt A.in1 s items[j] items2[j] (e j)) (hr : ∀ j (h1 : j < items.size) (h2 : j < items2.size), e j = false → RcLt A.in1 s items[j] items2[j] (r j))
    (h : Q (.bool (firstLt e r (decide (items.size < items2.size)) (List.range (min items.size items2.size)))) s) : wpAny (model prog w) A (call (.builtin "tuple.__lt__") [.ref l, .ref b]) Q E s := by
  obtain ⟨⟨k1, d1, t1, sl1⟩, g1, c1, n1, q1⟩ := id hl
  obtain ⟨⟨k2, d2, t2, sl2⟩, g2, c2, n2, q2⟩ := id hb
  simp only at c1 q1 c2 q2
  subst c1 q1 c2 q2
  exact call_meets F.slot_tuple_lt ⟨_, g1, rfl⟩ F.entry_tuple_lt (F.args_tuple_lt_2 _ _) (tuple_ltAt l b items items2 n1 n2 d1 d2 sl1 sl2 e r) ⟨g1, g2, he, hr, h⟩
/-- one tuple against another, where all keys are tuples and one of them is empty -/
theorem oneLt_tups {f : Bool} {xs ys : List PyData} {a b : Value} {as bs : List Addr} {Q : Bool → Shared → Prop} (ra : Reads s.heap a (.tuple xs) as) (rb : Reads s.heap b (.tuple ys) bs) (h : alike (.tuple xs) (.tuple ys) = true)
    (hu : A.units + min (PyData.tuple xs).depth (PyData.tuple ys).depth < cLine) (hq : Q (dataLt (.tuple xs) (.tuple ys)) s) : wpAny (model prog w) A (oneLt' f a b) Q E s := by
  cases f with
  | false => exact oneLt_alike (fun z => by cases z) ra rb h (by intro z; cases z) hu hq
  | true =>
    have hal : alikeAll xs ys = true := by simpa [alike] using h
    cases ra with
    | @tuple l o vs n _ as₁ h1 h2 h3 h4 =>
    cases rb with
    | @tuple l' o' vs' n' _ bs₁ k1 k2 k3 k4 =>
    have n1 : vs.size = xs.length := by simpa using ReadsAll.length _ _ _ h4
    have n2 : vs'.size = ys.length := by simpa using ReadsAll.length _ _ _ k4
    rw [dataLt_tuple, ← firstLt_toks xs ys hal, ← n1, ← n2] at hq
    rw [oneLt'_eq]
    simp only [if_true]
    have hu' : A.units + min (PyData.depthAll xs + 1) (PyData.depthAll ys + 1) < cLine := by simpa [PyData.depth] using hu
    have hu2 : A.in1.units + min (PyData.depthAll xs) (PyData.depthAll ys) < cLine := by
      show A.units + 1 + _ < _
      omega
    refine wpAny_bind (wpAny_cRoomFor (by omega) ?_)
    refine wpAny_bind (wpAny_callSpecialIfBound?_slot (T := "tuple") ⟨_, h1, h2⟩ F.slot_tuple_lt (lt_tuples (e := pairEq xs ys) (r := fun j => dataLt (xs.getD j .none) (ys.getD j .none)) ⟨_, h1, h2, _, h3⟩ ⟨_, k1, k2, _, k3⟩ (fun j j1 j2 => ?_) (fun j j1 j2 hj => ?_) ?_))
    · have := eqAt_alikeAll xs ys A.in1 s vs.toList vs'.toList _ _ h4 k4 hal hu2 j (by simpa using j1) (by simpa using j2)
      simpa using this
    · have := rcLt_alikeAll xs ys A.in1 s vs.toList vs'.toList _ _ h4 k4 hal hu2 j (by simpa using j1) (by simpa using j2) hj
      simpa using this
    · exact wpAny_truthy_bool hq
def nonE : PyData → Bool
  | .tuple (_ :: _) => true
  | _ => false
/-- the firsts of tuples -/
theorem firsts_tups {M : Model} : ∀ (vs : List Value) (ds : List PyData) {Q : List (Option Value) → Shared → Prop}, EachIs (fun v d => ∃ as, Reads s.heap v d as) vs ds → (∀ d ∈ ds, ∃ xs, d = .tuple xs) →
    (∀ os : List (Option Value), os.map (·.isSome) = ds.map nonE → Q os s) → wpAny M A (vs.mapM firstOfTuple') Q E s
  | _, _, _, .nil, _, h => by rw [List.mapM_nil]; exact wpAny_pure (h [] rfl)
  | v :: vs, d :: ds, Q, .cons ⟨as, r⟩ t, ht, h => by
    obtain ⟨xs, rfl⟩ := ht d (by simp)
    cases r with
    | @tuple a o items n _ as₁ h1 h2 h3 h4 =>
    rw [List.mapM_cons]
    refine wpAny_bind ?_
    rw [kas_first_eq]
    refine wpAny_bind (Looks.here (show Looks M s.heap (typeOf (.ref a)) o.cls from (Looks.ld h1).andThen .now) ?_)
    rw [h2, if_neg (by decide)]
    refine wpAny_bind (listItems_at h1 h3 (wpAny_pure ?_))
    refine wpAny_bind (firsts_tups vs ds t (fun d hd => ht d (by simp [hd])) fun os ho => wpAny_pure (h _ ?_))
    have n1 : items.size = xs.length := by simpa using ReadsAll.length _ _ _ h4
    rw [List.map_cons, List.map_cons, ho]
    congr 1
    cases xs with
    | nil =>
      have : items[0]? = none := Array.getElem?_eq_none (by rw [n1]; exact Nat.le_refl 0)
      rw [this]; rfl
    | cons x r =>
      have : 0 < items.size := by rw [n1]; simp
      rw [Array.getElem?_eq_getElem this]; rfl
/-- tuples of which one is empty can be sorted -/
theorem sortsE {vs : List Value} {ds : List PyData} (e : EachIs (fun v d => ∃ as, Reads s.heap v d as) vs ds) (hal : AllAlike ds) (ht : ∀ d ∈ ds, ∃ xs, d = .tuple xs) (hE : ∃ d ∈ ds, d = .tuple []) (hu : ∀ d, d ∈ ds → A.units + d.depth < cLine) : SortsAt prog w A s (dataKind s.heap ds) vs := by
  refine ⟨fun v hv => ?_, ?_⟩
  · obtain ⟨d, hd, as, r⟩ := e.left v hv
    exact ⟨_, dataKind_some hal hd r⟩
  have lt : ∀ (f : Bool) (E : Value → Shared → Prop) (x y : Value) (a b : (dataKind s.heap ds).α) {Q : Bool → Shared → Prop}, (dataKind s.heap ds).keyOf x = some a → (dataKind s.heap ds).keyOf y = some b → Q ((dataKind s.heap ds).blt a b) s → wpAny (model prog w) A (oneLt' f x y) Q E s := by
    intro f E x y a b Q ha hb hq
    obtain ⟨d, as, hd, ra, rfl⟩ := dataKind_inv ha
    obtain ⟨d', as', hd', rb, rfl⟩ := dataKind_inv hb
    have hdd := hal d hd d' hd'
    have hr := hu d hd
    obtain ⟨xs, rfl⟩ := ht d hd
    obtain ⟨ys, rfl⟩ := ht d' hd'
    exact oneLt_tups ra rb hdd (Nat.lt_of_le_of_lt (Nat.add_le_add_left (Nat.min_le_left _ _) _) hr) hq
  cases ds with
  | nil =>
    obtain ⟨d, hd, _⟩ := hE
    simp at hd
  | cons d₀ ds₀ =>
    cases e with
    | @cons v₀ _ vs₀ _ r₀ t₀ =>
    have e : EachIs (fun v d => ∃ as, Reads s.heap v d as) (v₀ :: vs₀) (d₀ :: ds₀) := .cons r₀ t₀
    have nall : ∀ os : List (Option Value), os.map (·.isSome) = (d₀ :: ds₀).map nonE → (os.toArray.all fun x => x.isSome) = false := by
      intro os ho
      obtain ⟨d, hd, hn⟩ := hE
      have h1 : false ∈ os.map (·.isSome) := by
        rw [ho]
        exact List.mem_map.mpr ⟨d, hd, by rw [hn]; rfl⟩
      obtain ⟨o, ho1, ho2⟩ := List.mem_map.mp h1
      cases q : os.toArray.all fun x => x.isSome with
      | false => rfl
      | true =>
        rw [List.all_toArray, List.all_eq_true] at q
        have := q o ho1
        rw [ho2] at this
        cases this
    by_cases h0 : nonE d₀ = true
    · refine ⟨general', fun E x y a b Q ha hb hq => lt false E x y a b ha hb hq, fun h2 E Q hq => ?_⟩
      rw [keyKind'_eq, List.mapM_toArray, map_eq_pure_bind]
      refine wpAny_bind (wpAny_bind (firsts_tups _ _ e ht fun os ho => wpAny_pure ?_))
      rw [nall os ho, if_neg Bool.false_ne_true]
      cases os with
      | nil => simp at ho
      | cons o os =>
        have : o.isSome = true := (List.cons.inj ho).1.trans h0
        rw [if_pos (by simpa using this)]
        exact wpAny_pure hq
    · have h0 : nonE d₀ = false := by simpa using h0
      refine ⟨oneType', fun E x y a b Q ha hb hq => ?_, fun h2 E Q hq => ?_⟩
      · rw [keyLt'_oneType]
        exact lt true E x y a b ha hb hq
      rw [keyKind'_eq, List.mapM_toArray, map_eq_pure_bind]
      refine wpAny_bind (wpAny_bind (firsts_tups _ _ e ht fun os ho => wpAny_pure ?_))
      rw [nall os ho, if_neg Bool.false_ne_true]
      cases os with
      | nil => simp at ho
      | cons o os =>
        have : o.isSome = false := (List.cons.inj ho).1.trans h0
        rw [if_neg (by simp; cases o <;> simp_all)]
        rw [oneTypeOnly'_eq, List.mapM_toArray, map_eq_pure_bind]
        refine wpAny_bind (wpAny_bind (wpAny_bind (kas_mapM (r := Value.type "tuple") _ (fun v hv Q' hq' => ?_) (wpAny_pure ?_))))
        · obtain ⟨d, hd, as, r⟩ := e.left v hv
          obtain ⟨xs, rfl⟩ := ht d hd
          exact (looks_reads r).here hq'
        · have hall : ((List.map (fun _ => Value.type "tuple") (v₀ :: vs₀)).toArray.all fun x => x == Value.type "tuple") = true := by
            simp only [List.all_toArray, List.all_map, List.all_eq_true]
            intro _ _
            rfl
          have h0 : (List.map (fun _ => Value.type "tuple") (v₀ :: vs₀)).toArray[0]? = some (Value.type "tuple") := by simp
          rw [h0]
          simp only [hall, if_true]
          exact wpAny_pure (wpAny_pure hq)
/-- what can be sorted here -/
def Sort2 (ds : List PyData) : Prop := (∀ d ∈ ds, ∃ xs, d = .tuple xs) ∨ ∀ d ∈ ds, d ≠ .none ∧ ∀ xs, d ≠ .tuple xs
theorem sorts2 {vs : List Value} {ds : List PyData} (e : EachIs (fun v d => ∃ as, Reads s.heap v d as) vs ds) (hal : AllAlike ds) (ht : Sort2 ds) (hu : ∀ d, d ∈ ds → A.units + d.depth < cLine) : SortsAt prog w A s (dataKind s.heap ds) vs := by
  rcases ht with ht | ht
  · by_cases hE : ∃ d ∈ ds, d = .tuple []
    · exact sortsE e hal ht hE hu
    · refine SortsAt.data e hal (.inl fun d hd => ?_) hu
      obtain ⟨xs, rfl⟩ := ht d hd
      cases xs with
      | nil => exact absurd ⟨_, hd, rfl⟩ hE
      | cons x r => exact ⟨x, r, rfl⟩
  · exact SortsAt.data e hal (.inr ht) hu
end
end Dl
namespace Dl
open PySem PySem.W PySem.Calls PyProof.Rows
section
variable {prog : Program} {w : World} {A : Around} {E : Value → Shared → Prop} {s : Shared}
/-- what a tuple gives -/
theorem collect_tup {l : Addr} {vs : List Value} {Q : List Value → Shared → Prop} (hl : s.heap.IsTuple l vs.toArray) (hz : vs.length ≤ sizeLine)
    (h : ∀ h' : Heap, (∀ b o, s.heap.get? b = some o → h'.get? b = some o) → Q vs { s with heap := h' }) : wpAny (model prog w) A (collect (.ref l)) Q E s := by
  obtain ⟨o, ho, hc, n, hd⟩ := id hl
  have hnew : (s.heap.push (seqObj "list" #[] 0)).get? s.heap.objs.size = some (seqObj "list" #[] 0) := Heap.get?_push_size _ rfl
  have ho' : (s.heap.push (seqObj "list" #[] 0)).get? l = some o := Heap.get?_push_of_some _ ho
  unfold collect
  refine wpAny_bind (wpAny_runValue (codeAny_builtin entry_proto_collect' ?_))
  show wpAny _ _ (newList [] >>= fun m => again (.builtin "list.__iadd__" ⟨[m, .ref l], []⟩)) _ _ s
  refine wpAny_bind (wpAny_newList (wpAny_pure ⟨Code.quiet_builtin _ (by decide +kernel), codeAny_builtin entry_list_iadd' ?_⟩))
  show wpAny _ _ (Builtin.List.listExtendWith (.ref s.heap.objs.size) (.ref l) (.ref s.heap.objs.size)) _ _ { s with heap := s.heap.push (seqObj "list" #[] 0) }
  unfold Builtin.List.listExtendWith
  refine wpAny_bind (wpAny_typeOf (T := "tuple") ⟨o, ho', hc⟩ ?_)
  rw [if_pos (by have q : (Value.type "tuple" == Value.type "tuple") = true := rfl; rw [q]; simp)]
  refine wpAny_bind (listItems_at ho' hd (wpAny_bind (listItems_at hnew rfl ?_)))
  rw [if_neg (by simp)]
  refine wpAny_bind (listUpdate_at hnew rfl ?_ (Nat.zero_le _) (by show (#[] ++ vs.toArray).size ≤ sizeLine + 1; simp; omega))
  refine wpAny_pure ?_
  refine wpAny_bind (wpAny_load (get?_update_seq hnew _) ?_)
  show wpAny _ _ (pure ((#[] : Array Value) ++ vs.toArray).toList) Q E _
  rw [show ((#[] : Array Value) ++ vs.toArray).toList = vs by simp]
  refine wpAny_pure (h _ fun b u e => ?_)
  rw [Heap.get?_update_ne _ _ _ _ (Nat.ne_of_lt (Heap.lt_size e))]
  exact Heap.get?_push_of_some _ e
/-- list.sort on a new list of what was gathered -/
theorem sort_rest {vs : List Value} {β : Type} {bs : List β} {enc : β → PyData} {R : Value → β → Prop} {Q : PySem.Fin → Shared → Prop} (e : EachIs R vs bs) (er : EachIs (fun v b => ∃ as, Reads s.heap v (enc b) as) vs bs) (hal : AllAlike (bs.map enc)) (hk : Sort2 (bs.map enc)) (hL : bs.length ≤ sizeLine)
    (hu : ∀ b, b ∈ bs → A.units + 1 + (enc b).depth < cLine)
    (h : ∀ (out : List Value) (p : Addr) (h' : Heap) (n : Nat), EachIs R out (bs.mergeSort (dataLe false enc)) → (∀ b o, s.heap.get? b = some o → h'.get? b = some o) → s.heap.objs.size ≤ p → h'.get? p = some (seqObj "list" out.toArray n) → Q (.done (.ret (.ref p))) { s with heap := h' }) :
    wpAny (model prog w) A (newList vs >>= fun l => holding [l] (call (.builtin "list.sort") [l] []) >>= fun _ => ret l) Q E s := by
  have hl := e.length
  refine wpAny_bind (wpAny_newList ?_ (by rw [hl]; exact hL))
  have hoL : (s.heap.push (seqObj "list" vs.toArray 0)).get? s.heap.objs.size = some (seqObj "list" vs.toArray 0) := Heap.get?_push_size _ rfl
  show wpAny _ _ _ _ _ { s with heap := s.heap.push (seqObj "list" vs.toArray 0) }
  generalize hS : sortingHeap (s.heap.push (seqObj "list" vs.toArray 0)) s.heap.objs.size vs = hp
  have er' : EachIs (fun v b => ∃ as, Reads hp v (enc b) as) vs bs := er.mono fun _ _ ⟨as, r⟩ => ⟨as, PyProof.Rows.Reads.keeps (fun b o q => by rw [← hS]; exact sortingHeap_old (Nat.ne_of_lt (Heap.lt_size q)) (Heap.get?_push_of_some _ q)) r⟩
  have S : SortsAt prog w A.in1 { s with heap := hp } (dataKind hp (bs.map enc)) vs := by
    refine sorts2 (s := { s with heap := hp }) (each_map (R := fun v d => ∃ as, Reads hp v d as) enc er') hal hk fun d hd => ?_
    obtain ⟨b, hb, rfl⟩ := List.mem_map.mp hd
    exact hu b hb
  have hout := sortVals_data (h' := hp) false e er' hal
  obtain ⟨c, hc⟩ := sortedHeap_at (vs := vs) (out := (sortVals (dataKind hp (bs.map enc)) false vs vs).toArray) hoL
  subst hS
  refine wpAny_bind (wpAny_holding (wpAny_call_entry slot_list_sort ⟨_, hoL, rfl⟩ entry_list_sort (list_sort_vals (s := { s with heap := s.heap.push (seqObj "list" vs.toArray 0) }) hoL S (by rw [hl]; exact hL) ?_) (args_list_sort _)))
  refine ⟨_, rfl, wpAny_pure (h _ s.heap.objs.size _ c hout (fun b o q => ?_) (Nat.le_refl _) hc)⟩
  have hlt := Heap.lt_size q
  rw [sortedHeap_old (Nat.ne_of_lt hlt) (by rw [size_push']; exact Nat.lt_succ_of_lt hlt)]
  exact Heap.get?_push_of_some _ q
end
end Dl
set_option maxHeartbeats 8000000
/-! set(xs), xs a list of any length of tuples of ints, few of them unlike. The road is the library's own (HandS.TupSets), the bound another: not the list's length, but how many unlike keys there are. -/
namespace Dl
open PySem PySem.W PySem.Calls PyProof.Rows L2
section
variable {P : Program} {w : World} {A : Around} {E : Value → Shared → Prop} {s : Shared}
/-- few unlike keys, whatever the list's length -/
def Few (ks : List (Addr × List Int)) : Prop := ∀ L : List (Addr × List Int), (L.map (·.2)).Nodup → (∀ p ∈ L, p ∈ ks) → L.length + 1 < 64
theorem set_turns {I : Addr} {fp wr : List Addr} {G : Array GenState → Array GenState → Prop} {n : Nat} {Pv : Nat → Value → Prop} {St : Nat → Shared → Prop} {R : Result → Shared → Prop}
    (W : WalksS P w A.in1 I fp wr G n Pv St) (S : Addr) (nS : S ∉ fp) (ks : List (Addr × List Int)) (hn : n = ks.length) (few : Few ks) (hv : ∀ i v, Pv i v → ∃ p, ks[i]? = some p ∧ v = .ref p.1)
    (h0 : Heap) (hk : ∀ p ∈ ks, IsT P w h0 p.2 p.1) (hS : h0.get? S = none) (hw : ∀ b ∈ wr, h0.get? b = none) (hu : A.in1.units < cLine) (k : Nat) :
    ∀ (i : Nat) (s : Shared), n - i = k → i ≤ n → St i s → (∀ b o, h0.get? b = some o → s.heap.get? b = some o) → (∃ L es ep t, SetTR P w s.heap S L es ep t ∧ Got ks i L) →
      (∀ s' L es ep t, Moved (S :: wr) G s s' → SetTR P w s'.heap S L es ep t → Got ks n L → (∀ b o, h0.get? b = some o → s'.heap.get? b = some o) → R (.ok (.ret .none)) s') →
      codeAny (model P w) A (.builtin "set.update.loop" ⟨[.ref S, .ref I], []⟩) R s := by
  have nw : S ∉ wr := fun h => nS (W.sub _ h)
  have up : ∀ b ∈ wr, b ∈ S :: wr := fun b hb => List.mem_cons_of_mem _ hb
  have stay : ∀ {s1 s2 : Shared}, Moved wr G s1 s2 → (∀ b o, h0.get? b = some o → s1.heap.get? b = some o) → ∀ b o, h0.get? b = some o → s2.heap.get? b = some o := fun m k1 b o e =>
    m.heap b o (fun hb => by rw [hw b hb] at e; cases e) (k1 b o e)
  have inK : ∀ {i : Nat} {L : List (Addr × List Int)}, Got ks i L → ∀ p ∈ L, p ∈ ks := fun g p hp => List.mem_of_mem_take (g.sub p hp)
  induction k with
  | zero =>
    intro i s e1 e2 st k1 ⟨L, es, ep, t, r, g⟩ fin
    have e3 : i = n := by omega
    subst e3
    refine codeAny_builtin F.entry_set_update_loop ?_
    rw [Around.under_plainId F.plain_set_update_loop _]
    refine wpAny_bind (W.done s _ _ st fun s2 m => ?_)
    have k2 := stay m k1
    exact wpAny_pure (fin s2 L es ep t (m.mono up) (r.keep (fun o e => m.heap S o nw e) fun p hp => isT_keep (hk p (inK g p hp)) k2) g k2)
  | succ k ih =>
    intro i s e1 e2 st k1 ⟨L, es, ep, t, r, g⟩ fin
    have e3 : i < n := by omega
    refine codeAny_builtin F.entry_set_update_loop ?_
    rw [Around.under_plainId F.plain_set_update_loop _]
    refine wpAny_bind (W.item i s _ _ e3 st fun v s2 hP st2 m => ?_)
    obtain ⟨p, hp, rfl⟩ := hv i v hP
    have k2 := stay m k1
    have r2 : SetTR P w s2.heap S L es ep t := r.keep (fun o e => m.heap S o nw e) fun q hq => isT_keep (hk q (inK g q hq)) k2
    have x2 : IsT P w s2.heap p.2 p.1 := isT_keep (hk p (List.mem_of_getElem? hp)) k2
    show wpAny _ A.in1 (holding [Value.ref p.1] (setAdd S (.ref p.1)) >>= _) _ _ s2
    refine wpAny_bind (wpAny_holding ?_)
    unfold setAdd
    refine wpAny_holding (wpAny_bind (wpAny_pyHash_tuple hu x2 ?_))
    refine add_at (s := { s2 with toks := s2.toks + (p.2.length + 1) }) r2 x2 hu (few L r2.nd (inK g)) fun b h' L2 es2 ep2 t2 sb r3 c1 c2 => ?_
    have g2 : Got ks (i + 1) L2 := (Classical.em (p.2 ∈ L.map (·.2))).elim (fun c => by rw [c1 c]; exact g.same hp c) fun c => g.more hp (c2 c)
    have k3 : ∀ b o, h0.get? b = some o → h'.get? b = some o := fun b o e => (sb.2 b (fun z => by rw [z, hS] at e; cases e)).trans (k2 b o e)
    refine wpAny_pure ⟨plainId_quiet F.plain_set_update_loop _, ih (i + 1) _ (by omega) e3 (W.frame _ s2 _ _ st2 (Nat.le_add_right _ _) fun b hb o e => ?_) k3 ⟨L2, es2, ep2, t2, r3, g2⟩ fun s4 L4 es4 ep4 t4 m4 r4 g4 k4 => ?_⟩
    · rw [sb.2 b (fun z : b = S => nS (by rw [← z]; exact hb))]; exact e
    · refine fin s4 L4 es4 ep4 t4 (Moved.trans W.gtrans ((m.mono up).then_heap (Nat.le_add_right _ _) fun b o hb e => ?_) m4) r4 g4 k4
      rw [sb.2 b (fun z : b = S => hb (by rw [z]; exact List.mem_cons_self))]; exact e
abbrev newSet (w : World) : Obj := { cls := .type "set", dict := none, data := .set #[] 0 (.fresh 0 0 (!w.params.followText "set-order")) }
/-- what is left behind set's own __init__ -/
def SetEnd (w : World) (P : Program) (s : Shared) (ks : List (Addr × List Int)) (s2 : Shared) : Prop := ∃ h' tk L es ep t, s2 = { s with heap := h', toks := tk } ∧ SetTR P w h' s.heap.objs.size L es ep t ∧ Got ks ks.length L ∧ ∀ b o, s.heap.get? b = some o → h'.get? b = some o
theorem set_long {l : Addr} {items : Array Value} (ks : List (Addr × List Int)) {Q : Value → Shared → Prop} (hh : A.handled = none) (hl : s.heap.IsList l items) (hit : items.toList = ks.map fun p => Value.ref p.1)
    (hk : ∀ p ∈ ks, IsT P w s.heap p.2 p.1) (few : Few ks) (hu : A.units + 3 < cLine) (h : ∀ s2, SetEnd w P s ks s2 → Q (.ref s.heap.objs.size) s2) : wpAny (model P w) A (call (.type "set") [.ref l]) Q E s := by
  have sz : items.size = ks.length := by rw [← Array.length_toList, hit, List.length_map]
  have hm := F.called_set.mro
  obtain ⟨c, tl, hmro⟩ := hm
  have b1 := F.called_set.made
  have b2 := F.called_set.sub
  have b3 := F.called_set.notType
  have b4 := F.called_set.canCreate
  have b5 := F.typeCall_set_1 (.ref l)
  refine wpAny_call (codeAny_of_tree ?_)
  show wpAny _ _ (callAny (.type "set") _) _ _ _
  refine wpAny_pure ⟨Code.quiet_builtin _ (by decide +kernel), codeAny_builtin F.entry_type_call ?_⟩
  rw [Around.under_plain (weight_type_call_type "set" [.ref l] []) rfl]
  repeat (any_goals (first | assumption | wp_step))
  have at0 : (s.heap.push (newSet w)).get? s.heap.objs.size = some (newSet w) := Heap.get?_push_size _ rfl
  refine codeAny_mono (code_set_led1 (.ref l) (E := E) (Q₁ := fun o2 s2 => o2 = .ref s.heap.objs.size ∧ s2 = { s with heap := s.heap.push (newSet w) }) ⟨rfl, rfl⟩) fun r s1 hr => ?_
  cases r with
  | error e => exact hr
  | ok fl =>
    cases fl with
    | next => exact hr.elim
    | brk => exact hr.elim
    | cont => exact hr.elim
    | ret obj =>
      obtain ⟨rfl, rfl⟩ := hr
      have ty : Shared.TypeIs { s with heap := s.heap.push (newSet w) } (.ref s.heap.objs.size) "set" := ⟨_, at0, rfl⟩
      have d1 := F.called_set.init.lookup
      have d2 := F.called_set.init.bind (.ref s.heap.objs.size)
      repeat (any_goals (first | assumption | wp_step))
      refine codeAny_mono (codeAny_call_builtin (R := wants (fun r s2 => r = .none ∧ SetEnd w P s ks s2) E) F.called_set.init.plain F.entry_set_init (check_set_init_1 ty ?_)) fun r s2 hr => ?_
      · obtain ⟨⟨k1, od, dt, sl⟩, g1, c1, n1, q1⟩ := hl
        simp only at c1 q1
        subst c1
        subst q1
        have g2 : (s.heap.push (newSet w)).get? l = some { cls := .type "list", dict := od, data := .seq items n1, slots := sl } := Heap.get?_push_of_some _ g1
        have l2 : (s.heap.push (newSet w)).IsList l items := ⟨_, g2, rfl, n1, rfl⟩
        have e1 := F.sub_list_set
        have e2 := F.sub_list_frozenset
        have e3 : (Value.type "list" == Value.type "dict") = false := by decide
        unfold Builtin.«set.__init__» noKeywords Builtin.Frozenset.updateFrom
        generalize hPI : pyIter = PI
        wp_walk
        subst hPI
        refine wpAny_pyIter_list l2 (wpAny_bind (wpAny_runValue ?_))
        have ll : l < s.heap.objs.size := Heap.lt_size g1
        have nl : l ≠ (s.heap.push (newSet w)).objs.size := by rw [Heap.size_push]; exact Nat.ne_of_lt (Nat.lt_succ_of_lt ll)
        have off : ∀ b, s.heap.objs.size ≤ b → s.heap.get? b = none := fun b hb => Heap.get?_none_of_le hb
        refine set_turns ((Walks.list (by simp [hh]) _ l nl items).toS) s.heap.objs.size ?nf ks sz few ?hv s.heap hk (off _ (Nat.le_refl _)) ?wr hu (items.size - 0) 0 _ (by omega) (Nat.zero_le _)
          ⟨⟨_, Heap.get?_push_size _ rfl, rfl, rfl⟩, (l2.push _)⟩ (fun b o e => Heap.get?_push_of_some _ (Heap.get?_push_of_some _ e)) ?st ?fin
        case nf =>
          rw [Heap.size_push]
          simp only [List.mem_cons, List.not_mem_nil, or_false, not_or]
          exact ⟨Nat.ne_of_lt (Nat.lt_succ_self _), Nat.ne_of_gt ll⟩
        case hv =>
          intro i v hv
          have q : items.toList[i]? = some v := by rw [Array.getElem?_toList]; exact hv
          rw [hit, List.getElem?_map] at q
          obtain ⟨p, q1, q2⟩ := Option.map_eq_some_iff.mp q
          exact ⟨p, q1, q2.symm⟩
        case wr =>
          intro b hb
          rw [List.mem_singleton.mp hb, Heap.size_push]
          exact off _ (Nat.le_succ _)
        case st => exact ⟨[], #[], 0, _, setTR_fresh (Heap.get?_push_of_some _ at0), Got.zero ks⟩
        case fin =>
          intro s3 L es ep t m r g k
          obtain ⟨h3, g3, d3, t3, o3⟩ := s3
          have m1 : g3 = s.gens := m.gens
          have m2 : d3 = s.drawn := m.drawn
          have m3 : o3 = s.os := m.os
          subst m1 m2 m3
          rw [sz] at g
          exact wpAny_pure (wpAny_pure ⟨rfl, h3, t3, L, es, ep, t, rfl, r, g, k⟩)
      · cases r with
        | error e => exact hr
        | ok fl =>
          cases fl with
          | next => exact hr.elim
          | brk => exact hr.elim
          | cont => exact hr.elim
          | ret v =>
            obtain ⟨rfl, h2⟩ := hr
            obtain ⟨h', tk, L, es, ep, t, rfl, x⟩ := h2
            repeat (any_goals (first | assumption | wp_step))
            exact h _ ⟨h', tk, L, es, ep, t, rfl, x⟩
end
end Dl
set_option maxHeartbeats 4000000
/-! Small operations over data: places, parts, fields, calls of builtins, the hand's fields. -/
namespace Dl
open PySem PySem.Spec PyProof.Rows L2
section
variable {c : Cf} {X : Cx} {W : WX'} {te ta tb ti : TE} {f f1 f2 : EDn} {tas : TA} {l : LDn}
/-! ### places -/
def dIx : D → D → Option D
  | .lst ds, .int i => atI ds i
  | .tup ds, .int i => atI ds i
  | _, _ => none
theorem FDs.atI {F : Hp} {xs : List V} {ds : List D} {i : Int} {d : D} (h : FDs c F xs ds) (e : L2.atI ds i = some d) : ∃ x, L2.atI xs i = some x ∧ FD c F x d := by
  unfold L2.atI at e ⊢
  obtain ⟨j, e1, e2⟩ := Option.bind_eq_some_iff.mp e
  obtain ⟨x, h1, h2⟩ := h.get e2
  exact ⟨x, by rw [h.length, e1]; exact h1, h2⟩
theorem ix_D (k : CfOk c X) : IxR X (rD c dIx) := by
  intro value slice pins s σ H x y v u Q I rx ry h hs
  obtain ⟨F, d1, d2, d, sub, nt, f1, f2, e, q⟩ := h
  unfold dIx at e
  split at e <;> try (cases e; done)
  · cases f2
    cases f1 with
    | @lst p xs _ h1 g1 =>
    obtain ⟨z, hz, fz⟩ := g1.atI e
    exact ix_list value slice pins s σ H _ _ v u Q I rx ry ⟨p, xs, _, z, rfl, rfl, .inl (.inl (sub _ _ h1)), hz, q z H F (Nx.stay sub nt (Ex.refl H)) fz⟩ hs
  · cases f2
    cases f1 with
    | @tup p xs _ h1 g1 =>
    obtain ⟨z, hz, fz⟩ := g1.atI e
    rw [k.K] at h1
    exact ix_tup value slice pins s σ H _ _ v u Q I rx ry ⟨p, xs, _, z, rfl, rfl, sub.sqT h1, hz, q z H F (Nx.stay sub nt (Ex.refl H)) fz⟩ hs
/-! ### parts of a tuple: t[:b], t[a:] -/
def cutD (ds : List D) (lo hi : Option Int) : List D := (ds.drop (HT.sIx ds.length 0 lo)).take (HT.sIx ds.length ds.length hi - HT.sIx ds.length 0 lo)
def eSlT (f : EDn) (flo fhi : Option EDn) : EDn := fun Γ hs => (f Γ hs).bind fun r => match r.1 with
  | .tup ds => match flo, fhi with
    | none, some g => (g Γ r.2).bind fun r2 => match r2.1 with
      | .int i => some (.tup (cutD ds none (some i)), r2.2)
      | _ => none
    | some g, none => (g Γ r.2).bind fun r2 => match r2.1 with
      | .int i => some (.tup (cutD ds (some i) none), r2.2)
      | _ => none
    | _, _ => none
  | _ => none
theorem cutV_len {F : Hp} {xs : List V} {ds : List D} (h : FDs c F xs ds) (lo hi : Option Int) : FDs c F (cutV xs lo hi) (cutD ds lo hi) := by
  unfold cutV cutD
  rw [h.length]
  exact (h.drop _).take _
theorem snd_slA {H : Hp} {B : Ba} {hs : HS} {Γ : Env} {tmp : List (D × V)} {σ : L2.St} {a : Addr} {xs : List V} {ds : List D} {lo hi : Option Int} {Q : VK} (D0 : DS c B hs Γ tmp σ H) (hm : (D.tup ds, V.ref a) ∈ tmp)
    (q : ∀ v H', DS c B hs Γ ((.tup (cutD ds lo hi), v) :: tmp) σ H' → Kp (some hs.ad) H H' → Q v H') : rSlA c.K (.ref a) lo hi H Q := by
  obtain ⟨F, ow, d⟩ := D0
  have fa := d.tmp _ hm
  cases id fa with
  | @tup _ xs _ h1 g1 =>
  refine ⟨a, xs, rfl, d.sub.sqT h1, fun hw => ?_, fun hw p hp => ?_⟩
  · refine q _ H ⟨F, ow, d.push ?_⟩ (Kp.refl H)
    have : cutD ds lo hi = ds := by
      unfold cutD
      rw [← g1.length, hw.1, hw.2]
      simp [g1.length]
    rw [this]
    exact fa
  · have n := Nx.lay (c := c) (ad := none) (o := .tup (cutV xs lo hi)) d.sub d.nt hp (by intro ps z; cases z)
    exact q _ _ ⟨_, ow, (d.step n).push (.tup (.inl (.inl upd_same)) ((cutV_len g1 lo hi).mono n.fe))⟩ n.he.mono
theorem snd_slT1 (h : Snd c te f) (h2 : Snd c ta f1) : Snd c (tSl (rSlA c.K) te tNoPart (tPart ta)) (eSlT f none (some f1)) := by
  intro B hs Γ tmp σ H D0 d hs' e Q q
  unfold eSlT at e
  obtain ⟨⟨d1, hs1⟩, e1, e⟩ := Option.bind_eq_some_iff.mp e
  split at e <;> try (cases e; done)
  rename_i ds hd
  have hd : d1 = .tup ds := hd
  subst hd
  obtain ⟨⟨d2, hs2⟩, e2, e⟩ := Option.bind_eq_some_iff.mp e
  split at e <;> try (cases e; done)
  rename_i i hi
  have hi : d2 = .int i := hi
  subst hi
  cases e
  refine h B hs Γ tmp σ H D0 _ hs1 e1 _ fun v1 H1 a1 D1 k1 => ?_
  refine h2 B hs1 Γ _ σ H1 D1 _ hs2 e2 _ fun v2 H2 a2 D2 k2 => ?_
  rw [a1.ad] at k2
  obtain ⟨F, ow, d2⟩ := id D2
  have f1 := d2.tmp (.tup ds, v1) (by simp)
  have f2 := d2.tmp (.int i, v2) (by simp)
  cases f2
  cases f1 with
  | @tup a xs _ g1 g2 =>
  refine ⟨i, rfl, snd_slA D2 (ds := ds) (xs := xs) (by simp) fun v H' D3 k3 => ?_⟩
  rw [(a1.trans a2).ad] at k3
  exact q v H' (a1.trans a2) (D3.drop (by intro p hp; simp at hp ⊢; rcases hp with h | h <;> simp [h])) (k1.trans (k2.trans k3))
theorem snd_slT2 (h : Snd c te f) (h2 : Snd c ta f1) : Snd c (tSl (rSlA c.K) te (tPart ta) tNoPart) (eSlT f (some f1) none) := by
  intro B hs Γ tmp σ H D0 d hs' e Q q
  unfold eSlT at e
  obtain ⟨⟨d1, hs1⟩, e1, e⟩ := Option.bind_eq_some_iff.mp e
  split at e <;> try (cases e; done)
  rename_i ds hd
  have hd : d1 = .tup ds := hd
  subst hd
  obtain ⟨⟨d2, hs2⟩, e2, e⟩ := Option.bind_eq_some_iff.mp e
  split at e <;> try (cases e; done)
  rename_i i hi
  have hi : d2 = .int i := hi
  subst hi
  cases e
  refine h B hs Γ tmp σ H D0 _ hs1 e1 _ fun v1 H1 a1 D1 k1 => ?_
  refine h2 B hs1 Γ _ σ H1 D1 _ hs2 e2 _ fun v2 H2 a2 D2 k2 => ?_
  rw [a1.ad] at k2
  obtain ⟨F, ow, d2⟩ := id D2
  have f1 := d2.tmp (.tup ds, v1) (by simp)
  have f2 := d2.tmp (.int i, v2) (by simp)
  cases f2
  cases f1 with
  | @tup a xs _ g1 g2 =>
  refine ⟨i, rfl, snd_slA D2 (ds := ds) (xs := xs) (by simp) fun v H' D3 k3 => ?_⟩
  rw [(a1.trans a2).ad] at k3
  exact q v H' (a1.trans a2) (D3.drop (by intro p hp; simp at hp ⊢; rcases hp with h | h <;> simp [h])) (k1.trans (k2.trans k3))
/-! ### calls of builtins -/
def dLen : List D → Option D
  | [.tup ds] => some (.int ds.length)
  | [.lst ds] => some (.int ds.length)
  | _ => none
theorem call_lenD (k : CfOk c X) : CallR X (.builtin "len") (rDs c dLen) := by
  intro pins s σ H xs us Q I r h
  obtain ⟨F, ds, d, sub, nt, fs, e, q⟩ := h
  unfold dLen at e
  split at e <;> try (cases e; done)
  · cases e
    cases fs with
    | cons f1 fs =>
    cases fs
    cases f1 with
    | @tup p xs _ h1 g1 =>
    rw [k.K] at h1
    exact call_len_seq pins s σ H _ us Q I r ⟨p, xs, rfl, .inr (sub.sqT h1), q _ H F (Nx.stay sub nt (Ex.refl H)) (by rw [g1.length]; exact .int _)⟩
  · cases e
    cases fs with
    | cons f1 fs =>
    cases fs
    cases f1 with
    | @lst p xs _ h1 g1 =>
    exact call_len_seq pins s σ H _ us Q I r ⟨p, xs, rfl, .inl (.inl (.inl (sub _ _ h1))), q _ H F (Nx.stay sub nt (Ex.refl H)) (by rw [g1.length]; exact .int _)⟩
def dAbs : List D → Option D
  | [.int i] => some (.int (if i < 0 then -i else i))
  | _ => none
theorem call_absD : CallR X (.builtin "abs") (rDs c dAbs) := by
  intro pins s σ H xs us Q I r h
  obtain ⟨F, ds, d, sub, nt, fs, e, q⟩ := h
  unfold dAbs at e
  split at e <;> try (cases e; done)
  cases e
  cases fs with
  | cons f1 fs =>
  cases fs
  cases f1
  exact call_abs pins s σ H _ us Q I r ⟨_, rfl, q _ H F (Nx.stay sub nt (Ex.refl H)) (.int _)⟩
def dInt : List D → Option D
  | [.int i] => some (.int i)
  | [.bl b] => some (.int (if b then 1 else 0))
  | _ => none
theorem call_intD : CallR X (.type "int") (rDs c dInt) := by
  intro pins s σ H xs us Q I r h
  obtain ⟨F, ds, d, sub, nt, fs, e, q⟩ := h
  unfold dInt at e
  split at e <;> try (cases e; done)
  · cases e
    cases fs with
    | cons f1 fs =>
    cases fs
    cases f1
    exact call_int1 pins s σ H _ us Q I r (.inl ⟨_, rfl, q _ H F (Nx.stay sub nt (Ex.refl H)) (.int _)⟩)
  · cases e
    cases fs with
    | cons f1 fs =>
    cases fs
    cases f1
    exact call_int1 pins s σ H _ us Q I r (.inr ⟨_, rfl, q _ H F (Nx.stay sub nt (Ex.refl H)) (.int _)⟩)
/-! lists of ints, of bools -/
def intsD : List D → Option (List Int)
  | [] => some []
  | .int i :: ds => (intsD ds).map (i :: ·)
  | _ => none
def blsD : List D → Option (List Bool)
  | [] => some []
  | .bl i :: ds => (blsD ds).map (i :: ·)
  | _ => none
theorem intsD_at {F : Hp} : ∀ {ds : List D} {xs : List V} {ns : List Int}, FDs c F xs ds → intsD ds = some ns → xs = ns.map V.int
  | [], _, _, .nil, e => by simp [intsD] at e; subst e; rfl
  | d :: ds, _, ns, .cons a t, e => by
    cases d <;> simp [intsD] at e
    obtain ⟨ns', e1, e2⟩ := e
    subst e2
    cases a
    rw [intsD_at t e1]
    rfl
theorem blsD_at {F : Hp} : ∀ {ds : List D} {xs : List V} {ns : List Bool}, FDs c F xs ds → blsD ds = some ns → xs = ns.map V.bl
  | [], _, _, .nil, e => by simp [blsD] at e; subst e; rfl
  | d :: ds, _, ns, .cons a t, e => by
    cases d <;> simp [blsD] at e
    obtain ⟨ns', e1, e2⟩ := e
    subst e2
    cases a
    rw [blsD_at t e1]
    rfl
def dSum : List D → Option D
  | [.lst ds] => (intsD ds).map fun ns => .int ns.sum
  | _ => none
def dAny : List D → Option D
  | [.lst ds] => (blsD ds).map fun bs => .bl (bs.any id)
  | _ => none
def dAll : List D → Option D
  | [.lst ds] => (blsD ds).map fun bs => .bl (bs.all id)
  | _ => none
theorem cr_sumD (k : CfOk c X) (hc : X.calm = true) : CallR X (.builtin "sum") (rDs c dSum) := by
  intro pins s σ H xs us Q I r h
  obtain ⟨F, ds, d, sub, nt, fs, e, q⟩ := h
  unfold dSum at e
  split at e <;> try (cases e; done)
  obtain ⟨ns, e1, e⟩ := Option.map_eq_some_iff.mp e
  cases e
  cases fs with
  | cons f1 fs =>
  cases fs
  cases f1 with
  | @lst p xs _ h1 g1 =>
  have := intsD_at g1 e1
  subst this
  exact cr_sum hc pins s σ H _ us Q I r ⟨p, ns, rfl, .inl (.inl (sub _ _ h1)), q _ H F (Nx.stay sub nt (Ex.refl H)) (.int _)⟩
theorem cr_anyD (k : CfOk c X) (hc : X.calm = true) : CallR X (.builtin "any") (rDs c dAny) := by
  intro pins s σ H xs us Q I r h
  obtain ⟨F, ds, d, sub, nt, fs, e, q⟩ := h
  unfold dAny at e
  split at e <;> try (cases e; done)
  obtain ⟨ns, e1, e⟩ := Option.map_eq_some_iff.mp e
  cases e
  cases fs with
  | cons f1 fs =>
  cases fs
  cases f1 with
  | @lst p xs _ h1 g1 =>
  have := blsD_at g1 e1
  subst this
  exact cr_any hc pins s σ H _ us Q I r ⟨p, ns, rfl, .inl (.inl (sub _ _ h1)), q _ H F (Nx.stay sub nt (Ex.refl H)) (.bl _)⟩
theorem cr_allD (k : CfOk c X) (hc : X.calm = true) : CallR X (.builtin "all") (rDs c dAll) := by
  intro pins s σ H xs us Q I r h
  obtain ⟨F, ds, d, sub, nt, fs, e, q⟩ := h
  unfold dAll at e
  split at e <;> try (cases e; done)
  obtain ⟨ns, e1, e⟩ := Option.map_eq_some_iff.mp e
  cases e
  cases fs with
  | cons f1 fs =>
  cases fs
  cases f1 with
  | @lst p xs _ h1 g1 =>
  have := blsD_at g1 e1
  subst this
  exact cr_all hc pins s σ H _ us Q I r ⟨p, ns, rfl, .inl (.inl (sub _ _ h1)), q _ H F (Nx.stay sub nt (Ex.refl H)) (.bl _)⟩
/-- tuple(xs) -/
def dTuple : List D → Option D
  | [.lst ds] => some (.tup ds)
  | _ => none
theorem call_tupleD (k : CfOk c X) : CallR X (.type "tuple") (rDs c dTuple) := by
  intro pins s σ H xs us Q I r h
  obtain ⟨F, ds, d, sub, nt, fs, e, q⟩ := h
  unfold dTuple at e
  split at e <;> try (cases e; done)
  cases e
  cases fs with
  | cons f1 fs =>
  cases fs
  cases f1 with
  | @lst p xs _ h1 g1 =>
  refine call_tuple_of pins s σ H _ us Q I r ⟨p, xs, rfl, .inl ⟨.inl (.inl (sub _ _ h1)), fun z hz => ?_⟩⟩
  have n := Nx.lay (c := c) (ad := none) (o := .tup xs) sub nt hz (by intro ps z; cases z)
  exact q _ _ _ n (.tup (.inl (.inl upd_same)) (g1.mono n.fe))
/-- list(range(n)) -/
def eLstRg (f : EDn) : EDn := fun Γ hs => (f Γ hs).bind fun r => match r.1 with
  | .int n => if -1000 ≤ n ∧ n ≤ 1000 then some (.lst (rngI 0 n), r.2) else none
  | _ => none
theorem fds_rg {F : Hp} {a b : Int} : FDs c F (rgV a b) (rngI a b) := by
  unfold rgV rngI
  generalize (b - a).toNat = n
  have : ∀ ks : List Nat, FDs c F (ks.map fun (k : Nat) => V.int (a + (k : Int))) (ks.map fun (i : Nat) => D.int (a + (i : Int))) := by
    intro ks
    induction ks with
    | nil => exact .nil
    | cons k ks ih => exact .cons (.int _) ih
  exact this _
theorem snd_lstRg (h : Snd c te f) : Snd c (tLstRg (tRg1 te)) (eLstRg f) := by
  intro B hs Γ tmp σ H D0 d hs' e Q q
  unfold eLstRg at e
  obtain ⟨⟨d1, hs1⟩, e1, e⟩ := Option.bind_eq_some_iff.mp e
  split at e <;> try (cases e; done)
  rename_i n hd
  have hd : d1 = .int n := hd
  subst hd
  split at e <;> try (cases e; done)
  rename_i hz
  cases e
  refine h B hs Γ tmp σ H D0 _ _ e1 _ fun v1 H1 a1 D1 k1 => ?_
  obtain ⟨F, ow, d1⟩ := D1
  have fv := d1.tmp (.int n, v1) (by simp)
  cases fv
  refine ⟨n, rfl, ⟨by omega, by omega, by omega, by omega, ?_⟩, fun p hp => ?_⟩
  · exact Nat.le_trans (by omega : (n - 0).toNat ≤ 1000) (by decide)
  · have n2 := Nx.lay (c := c) (ad := none) (o := .lst (rgV 0 n)) d1.sub d1.nt hp (by intro ps z; cases z)
    exact q _ _ a1 ⟨_, ow, ((d1.step n2).push (.lst upd_same fds_rg)).drop (by intro p hp; simp at hp ⊢; rcases hp with h | h <;> simp [h])⟩ (k1.trans n2.he.mono)
end
end Dl
/-! isinstance, the whole's fields, the hand's fields. -/
namespace Dl
open PySem PySem.Spec PyProof.Rows L2
/-- what is known of the class Whole -/
structure Wf (K : PySem.W.Frag) (C : Addr) : Prop where
  cl : Cls K C
  sz : NoAttr K C "sizes"
  sh : NoAttr K C "shares"
  ha : PySem.W.findIn K (.ref C) "__class__" = some (some (.builtin "object.__class__"))
  hn : PySem.W.specialIn K (.builtin "object.__class__") "__get__" = some (some (.builtin "getset_descriptor.__get__"))
  htk : PySem.W.takesIn K (.builtin "object.__class__") = some true
  hm : PySem.W.mroIn K C (.type "object") = some true
  kC : PySem.W.kitOne K (.ref C) (.ref C) = some true
  kI : PySem.W.kitOne K (.ref C) (.type "int") = some false
  kBo : PySem.W.kitOne K (.ref C) (.type "bool") = some false
  kT : PySem.W.kitOne K (.ref C) (.type "tuple") = some false
  b1 : PySem.W.kitOne K (.type "NoneType") (.ref C) = some false
  b2 : PySem.W.kitOne K (.type "bool") (.ref C) = some false
  b3 : PySem.W.kitOne K (.type "int") (.ref C) = some false
  b4 : PySem.W.kitOne K (.type "str") (.ref C) = some false
  b5 : PySem.W.kitOne K (.type "tuple") (.ref C) = some false
  b6 : PySem.W.kitOne K (.type "list") (.ref C) = some false
  b7 : PySem.W.kitOne K (.type "dict") (.ref C) = some false
def tyN : D → Option String
  | .non => some "NoneType"
  | .bl _ => some "bool"
  | .int _ => some "int"
  | .str _ => some "str"
  | .tup _ => some "tuple"
  | .ptup _ => some "tuple"
  | .lst _ => some "list"
  | .dic _ _ => some "dict"
  | _ => none
def isiTy : String → String → Option Bool
  | a, "int" => some (a == "int" || a == "bool")
  | a, "bool" => some (a == "bool")
  | a, "tuple" => some (a == "tuple")
  | a, "dict" => some (a == "dict")
  | _, _ => none
/-- isinstance(x, t) -/
def dIsi (c : Cf) : List D → Option D
  | [.obj _ _, .ty "int"] => some (.bl false)
  | [.obj _ _, .ty "bool"] => some (.bl false)
  | [.obj _ _, .ty "tuple"] => some (.bl false)
  | [.obj _ _, .cls a] => if a = c.C then some (.bl true) else none
  | [x, .ty n] => (tyN x).bind fun m => (isiTy m n).map .bl
  | [x, .cls a] => if a = c.C then (tyN x).map fun _ => .bl false else none
  | _ => none
section
variable {c : Cf} {X : Cx} {W : WX'} {te ta tb ti : TE} {f f1 f2 : EDn} {tas : TA} {l : LDn}
theorem kit_D {pins : List (Addr × Obj)} {σ : L2.St} {H F : Hp} {s : Shared} (k : CfOk c X) (w : Wf c.K c.C) (I : Inv X pins σ H s) (sub : Ex F H) {x : V} {u : Value} {d : D} (rx : RelV x u) (f : FD c F x d) :
    (∀ m, tyN d = some m → ∃ P : Heap → Prop, PySem.W.KitX X.K u (.type m) P ∧ P s.heap ∧ u ≠ .builtin "__main__.__loader__#opaque") ∧
    (∀ sz sh, d = .obj sz sh → ∃ P : Heap → Prop, PySem.W.KitX X.K u (.ref c.C) P ∧ P s.heap ∧ u ≠ .builtin "__main__.__loader__#opaque") := by
  have bs : ∀ {t : Value}, TyX X.K H x t → ∃ P : Heap → Prop, PySem.W.KitX X.K u t P ∧ P s.heap ∧ u ≠ .builtin "__main__.__loader__#opaque" := fun t => kit_of I rx t
  refine ⟨fun m hm => ?_, fun sz sh hd => ?_⟩
  · cases d <;> simp [tyN] at hm <;> subst hm
    · cases f; exact bs (.base .non)
    · cases f; exact bs (.base (.bl _))
    · cases f; exact bs (.base (.int _))
    · cases f; exact bs (.base (.str _))
    · cases f with
      | @tup a xs _ h1 _ =>
        rw [k.K] at h1
        have h2 : SqT X.K H a xs := sub.sqT h1
        have rx : u = Value.ref a := rx
        subst rx
        obtain ⟨its, r, ht, hz⟩ := I.tuple h2
        exact ⟨_, PySem.W.kitx_tuple, ht.typeIs, fun z => nomatch z⟩
    · cases f with
      | @lst a xs _ h1 _ => exact bs (.base (.lst (sub _ _ h1)))
    · obtain ⟨p, es, rfl, hp, _⟩ := f.dic_inv
      have rx : u = Value.ref p := rx
      subst rx
      have := IsN.at k I (x := .ref p) (u := Value.ref p) (show RelV (.ref p) (Value.ref p) from rfl) ⟨p, es, rfl, sub.rd hp⟩
      obtain ⟨o, h1, h2⟩ := this.1
      exact ⟨_, PySem.W.kitx_dict, ⟨o, h1, h2⟩, fun z => nomatch z⟩
    · cases f with
      | @ptup a od xs _ h1 _ _ => exact bs (.fTuple (sub _ _ h1))
  · subst hd
    cases f with
    | @obj a dx xx yy _ _ h1 _ _ =>
      have w' := w
      rw [k.K] at w'
      exact bs (.base (.ins (sub _ _ h1) w'.cl w'.ha w'.hn w'.htk w'.hm))
theorem isiTy_ok {K : PySem.W.Frag} {d : D} {m n : String} {b : Bool} (hm : tyN d = some m) (h : isiTy m n = some b) : PySem.W.kitOne K (.type m) (.type n) = some b := by
  have hm' : m = "NoneType" ∨ m = "bool" ∨ m = "int" ∨ m = "str" ∨ m = "tuple" ∨ m = "list" ∨ m = "dict" := by
    cases d <;> simp [tyN] at hm <;> simp [← hm]
  unfold isiTy at h
  split at h <;> cases h <;> rcases hm' with rfl | rfl | rfl | rfl | rfl | rfl | rfl <;> exact kit_ty (by decide +kernel)
theorem call_isiD (k : CfOk c X) (w : Wf c.K c.C) : CallR X (.builtin "isinstance") (rDs c (dIsi c)) := by
  intro pins s σ H xs us Q I r h
  obtain ⟨F, ds, d, sub, nt, fs, e, q⟩ := h
  cases fs with
  | nil => simp [dIsi] at e
  | cons f1 fs =>
  cases fs with
  | nil => simp [dIsi] at e
  | cons f2 fs =>
  cases fs with
  | cons _ _ => simp [dIsi] at e
  | nil =>
  rename_i x d1 y d2
  obtain ⟨u1, u2, rfl, r1, r2⟩ := vals2 r
  obtain ⟨g1, g2⟩ := kit_D k w I sub r1 f1
  have w' := w
  rw [k.K] at w'
  have fin : ∀ {t v : Value} {b : Bool}, (∃ P : Heap → Prop, PySem.W.KitX X.K u1 t P ∧ P s.heap ∧ u1 ≠ .builtin "__main__.__loader__#opaque") → u2 = v → PySem.W.kitOne X.K t v = some b → d = .bl b → wpAny (model X.prog X.w) X.A (call (.builtin "isinstance") [u1, u2]) (EP X pins σ Q) X.xe s := by
    rintro t v b ⟨P, Z, p, hx⟩ rfl hk rfl
    exact PySem.W.kia_one Z I.kIn p hk hx fun tk => ⟨.bl b, H, I.tok tk, rfl, q _ H F (Nx.stay sub nt (Ex.refl H)) (.bl _)⟩
  unfold dIsi at e
  split at e
  · rename_i he
    injection he with h1 he
    injection he with h2 he
    subst h1 h2
    cases e
    cases f2
    exact fin (g2 _ _ rfl) (show u2 = Value.type _ from r2) w'.kI rfl
  · rename_i he
    injection he with h1 he
    injection he with h2 he
    subst h1 h2
    cases e
    cases f2
    exact fin (g2 _ _ rfl) (show u2 = Value.type _ from r2) w'.kBo rfl
  · rename_i he
    injection he with h1 he
    injection he with h2 he
    subst h1 h2
    cases e
    cases f2
    exact fin (g2 _ _ rfl) (show u2 = Value.type _ from r2) w'.kT rfl
  · rename_i he
    injection he with h1 he
    injection he with h2 he
    subst h1 h2
    split at e <;> try (cases e; done)
    rename_i ha
    subst ha
    cases e
    cases f2
    exact fin (g2 _ _ rfl) (show u2 = Value.ref _ from r2) w'.kC rfl
  · rename_i he
    injection he with h1 he
    injection he with h2 he
    subst h1 h2
    obtain ⟨m, e1, e⟩ := Option.bind_eq_some_iff.mp e
    obtain ⟨b, e2, e⟩ := Option.map_eq_some_iff.mp e
    subst e
    cases f2
    exact fin (g1 m e1) (show u2 = Value.type _ from r2) (isiTy_ok e1 e2) rfl
  · rename_i he
    injection he with h1 he
    injection he with h2 he
    subst h1 h2
    split at e <;> try (cases e; done)
    rename_i ha
    subst ha
    obtain ⟨m, e1, e⟩ := Option.map_eq_some_iff.mp e
    subst e
    cases f2
    refine fin (g1 m e1) (show u2 = Value.ref _ from r2) (b := false) ?_ rfl
    have hm' : m = "NoneType" ∨ m = "bool" ∨ m = "int" ∨ m = "str" ∨ m = "tuple" ∨ m = "list" ∨ m = "dict" := by
      cases d1 <;> simp [tyN] at e1 <;> simp [← e1]
    rcases hm' with rfl | rfl | rfl | rfl | rfl | rfl | rfl
    · exact w'.b1
    · exact w'.b2
    · exact w'.b3
    · exact w'.b4
    · exact w'.b5
    · exact w'.b6
    · exact w'.b7
  · cases e
/-! ### the whole's fields -/
def eFld (f : EDn) (sz : Bool) : EDn := fun Γ hs => (f Γ hs).bind fun r => match r.1 with
  | .obj x y => some (if sz then x else y, r.2)
  | _ => none
theorem snd_sizes (w : Wf c.K c.C) (h : Snd c te f) : Snd c (tFld c.K te "sizes") (eFld f true) := by
  intro B hs Γ tmp σ H D0 d hs' e Q q
  unfold eFld at e
  obtain ⟨⟨d1, hs1⟩, e1, e⟩ := Option.bind_eq_some_iff.mp e
  split at e <;> try (cases e; done)
  rename_i x y hd
  have hd : d1 = .obj x y := hd
  subst hd
  cases e
  refine h B hs Γ tmp σ H D0 _ _ e1 _ fun v1 H1 a1 D1 k1 => ?_
  obtain ⟨F, ow, d1⟩ := D1
  have fv := d1.tmp (.obj x y, v1) (by simp)
  cases fv with
  | @obj a dx xv yv _ _ h1 h2 h3 =>
  exact ⟨a, c.C, dx, _, xv, rfl, d1.sub _ _ h1, w.cl, w.sz, rfl, q xv H1 a1 ⟨F, ow, (d1.push h2).drop (by intro p hp; simp at hp ⊢; rcases hp with h | h <;> simp [h])⟩ k1⟩
theorem snd_shares (w : Wf c.K c.C) (h : Snd c te f) : Snd c (tFld c.K te "shares") (eFld f false) := by
  intro B hs Γ tmp σ H D0 d hs' e Q q
  unfold eFld at e
  obtain ⟨⟨d1, hs1⟩, e1, e⟩ := Option.bind_eq_some_iff.mp e
  split at e <;> try (cases e; done)
  rename_i x y hd
  have hd : d1 = .obj x y := hd
  subst hd
  cases e
  refine h B hs Γ tmp σ H D0 _ _ e1 _ fun v1 H1 a1 D1 k1 => ?_
  obtain ⟨F, ow, d1⟩ := D1
  have fv := d1.tmp (.obj x y, v1) (by simp)
  cases fv with
  | @obj a dx xv yv _ _ h1 h2 h3 =>
  exact ⟨a, c.C, dx, _, yv, rfl, d1.sub _ _ h1, w.cl, w.sh, rfl, q yv H1 a1 ⟨F, ow, (d1.push h3).drop (by intro p hp; simp at hp ⊢; rcases hp with h | h <;> simp [h])⟩ k1⟩
/-! ### the hand's fields -/
inductive HF where
  | cells | at_ | left | seed | turn
def HF.key : HF → Str
  | .cells => "cells"
  | .at_ => "at"
  | .left => "left"
  | .seed => "seed"
  | .turn => "turn"
def HS.get (h : HS) : HF → D
  | .cells => .lst (h.cells.map D.int)
  | .at_ => .int h.at_
  | .left => .int h.left
  | .seed => .int h.seed
  | .turn => .int h.turn
def HS.put (h : HS) : HF → Int → Option HS
  | .cells, _ => none
  | .at_, i => some { h with at_ := i }
  | .left, i => some { h with left := i }
  | .seed, i => some { h with seed := i }
  | .turn, i => some { h with turn := i }
def eHand (f : EDn) (k : HF) : EDn := fun Γ hs => (f Γ hs).bind fun r => match r.1 with
  | .hand a => if a = r.2.ad then some (r.2.get k, r.2) else none
  | _ => none
theorem snd_hand {z : HF} (h : Snd c te f) : Snd c (tDGet te (tC (.str z.key))) (eHand f z) := by
  intro B hs Γ tmp σ H D0 d hs' e Q q
  unfold eHand at e
  obtain ⟨⟨d1, hs1⟩, e1, e⟩ := Option.bind_eq_some_iff.mp e
  split at e <;> try (cases e; done)
  rename_i a hd
  have hd : d1 = .hand a := hd
  subst hd
  split at e <;> try (cases e; done)
  rename_i ha
  have ha : a = hs1.ad := ha
  subst ha
  injection e with e
  injection e with e2 e3
  have e3 : hs1 = hs' := e3
  subst e3
  have e2 : hs1.get z = d := e2
  subst e2
  refine h B hs Γ tmp σ H D0 _ _ e1 _ fun v1 H1 a1 D1 k1 => ?_
  obtain ⟨F, ow, d1⟩ := D1
  have fv := d1.tmp (.hand hs1.ad, v1) (by simp)
  cases fv
  obtain ⟨g1, g2⟩ := d1.hH
  have fin : ∀ v, FD c F v (hs1.get z) → Q v H1 := fun v fv => q v H1 a1 ⟨F, ow, (d1.push fv).drop (by intro p hp; simp at hp ⊢; rcases hp with h | h <;> simp [h])⟩ k1
  cases z
  · exact ⟨hs1.ad, .ref hs1.la, rfl, .inl ⟨_, .inr "cells", .inl g1, rfl, rfl⟩, fin _ g2⟩
  · exact ⟨hs1.ad, .int hs1.at_, rfl, .inl ⟨_, .inr "at", .inl g1, rfl, rfl⟩, fin _ (.int _)⟩
  · exact ⟨hs1.ad, .int hs1.left, rfl, .inl ⟨_, .inr "left", .inl g1, rfl, rfl⟩, fin _ (.int _)⟩
  · exact ⟨hs1.ad, .int hs1.seed, rfl, .inl ⟨_, .inr "seed", .inl g1, rfl, rfl⟩, fin _ (.int _)⟩
  · exact ⟨hs1.ad, .int hs1.turn, rfl, .inl ⟨_, .inr "turn", .inl g1, rfl, rfl⟩, fin _ (.int _)⟩
def sHand (f : EDn) (z : HF) (fv : EDn) : SDn := fun Γ hs => (fv Γ hs).bind fun rv => (f Γ rv.2).bind fun r => match r.1, rv.1 with
  | .hand a, .int i => if a = r.2.ad then (r.2.put z i).map fun h => (.nx Γ, h) else none
  | _, _ => none
theorem DSF.hand {B : Ba} {hs hs' : HS} {Γ : Env} {tmp : List (D × V)} {σ : L2.St} {H F : Hp} {ow : Nat → Addr} (d : DSF c B hs Γ tmp σ H F ow) (h : HSm hs hs') : DSF c B hs' Γ tmp σ (upd H hs.ad (.dK (handK hs'))) F ow := by
  have k : Kp (some hs.ad) H (upd H hs.ad (.dK (handK hs'))) := ⟨fun a o m _ e => by rw [upd_ne (fun z => m (by rw [z]))]; exact e, fun a ps e => ⟨ps, by rw [upd_ne (fun z => by rw [z, d.hH.1] at e; cases e)]; exact e⟩, fun a e _ z => by cases e; rw [upd_same] at z; cases z⟩
  have tb : LamX.Tabs c.T (upd H hs.ad (.dK (handK hs'))) := fun p hp => by
    obtain ⟨ps, t1, t2, t3⟩ := d.tabs p hp
    refine ⟨ps, by rw [upd_ne (fun z => by rw [z, d.hH.1] at t1; cases t1)]; exact t1, t2, fun pos cv hc => ?_⟩
    obtain ⟨cc, c1, c2⟩ := t3 pos cv hc
    exact ⟨cc, c1, by rw [upd_ne (fun z => by rw [z, d.hH.1] at c2; cases c2)]; exact c2⟩
  exact d.back k h tb (by rw [h.ad]; exact upd_same)
theorem ss_hand {z : HF} (hv : Snd c te f) (h : Snd c ta f1) : SndS c W (sDPut ta (tC (.str z.key)) te) (sHand f1 z f) := by
  intro B hs Γ tmp σ H D0 r hs' e E p
  unfold sHand at e
  obtain ⟨⟨d1, hs1⟩, e1, e⟩ := Option.bind_eq_some_iff.mp e
  obtain ⟨⟨d2, hs2⟩, e2, e⟩ := Option.bind_eq_some_iff.mp e
  split at e <;> try (cases e; done)
  rename_i a i hd2 hd1
  have hd1 : d1 = .int i := hd1
  have hd2 : d2 = .hand a := hd2
  subst hd1 hd2
  split at e <;> try (cases e; done)
  rename_i ha
  have ha : a = hs2.ad := ha
  subst ha
  obtain ⟨h3, e3, e⟩ := Option.map_eq_some_iff.mp e
  injection e with e4 e5
  subst e4 e5
  refine hv B hs Γ tmp σ H D0 _ _ e1 _ fun v1 H1 a1 D1 k1 => ?_
  refine h B hs1 Γ _ σ H1 D1 _ _ e2 _ fun v2 H2 a2 D2 k2 => ?_
  obtain ⟨F, ow, d2⟩ := D2
  have f1 := d2.tmp (.int i, v1) (by simp)
  have f2 := d2.tmp (.hand hs2.ad, v2) (by simp)
  cases f1
  cases f2
  have hm : HSm hs2 h3 := by
    cases z <;> simp [HS.put] at e3 <;> subst e3 <;> exact ⟨rfl, rfl, rfl⟩
  refine ⟨hs2.ad, upd H2 hs2.ad (.dK (handK h3)), rfl, .inl ⟨handK hs2, .inr z.key, d2.hH.1, rfl, ?_, ?_⟩, ?_⟩
  · exact Nat.lt_of_lt_of_le (by show 5 < 10; decide : (handK hs2).length < 10) (by decide)
  · cases z <;> simp [HS.put] at e3 <;> subst e3 <;> rfl
  · exact p ((a1.trans a2).trans hm) σ _ ⟨F, ow, (d2.hand hm).drop (by intro p hp; simp [hp])⟩
end
end Dl
/-! sorted(x), set(xs). -/
namespace Dl
open PySem PySem.Spec PyProof.Rows L2
def isTupD : D → Bool
  | .tup _ => true
  | _ => false
def isIntD : D → Bool
  | .int _ => true
  | _ => false
/-- what can be sorted -/
def sortOk (ds : List D) : Bool := ds.all pOk && ds.all (fun a => ds.all fun b => PySem.W.alike (toPy a) (toPy b)) && (ds.all isTupD || ds.all isIntD) && ds.all (fun a => decide ((toPy a).depth ≤ 40)) && decide (ds.length ≤ 100000)
def sortD (ds : List D) : List D := ds.mergeSort (PySem.W.dataLe false toPy)
section
variable {c : Cf} {X : Cx} {W : WX'} {te ta tb ti : TE} {f f1 f2 : EDn} {tas : TA} {l : LDn}
theorem isTupD_py {d : D} (h : isTupD d = true) : ∃ xs, toPy d = .tuple xs := by
  cases d <;> simp [isTupD] at h
  exact ⟨_, by rw [toPy]⟩
theorem isIntD_py {d : D} (h : isIntD d = true) : ∃ i, toPy d = .int i := by
  cases d <;> simp [isIntD] at h
  exact ⟨_, by rw [toPy]⟩
structure SortP (ds : List D) : Prop where
  p : ∀ d ∈ ds, pOk d = true
  al : PySem.W.AllAlike (ds.map toPy)
  s2 : Sort2 (ds.map toPy)
  dp : ∀ d ∈ ds, (toPy d).depth ≤ 40
  len : ds.length ≤ 100000
theorem sortP {ds : List D} (h : sortOk ds = true) : SortP ds := by
  unfold sortOk at h
  simp only [Bool.and_eq_true, decide_eq_true_eq] at h
  obtain ⟨⟨⟨⟨h1, h2⟩, h3⟩, h4⟩, h5⟩ := h
  refine ⟨fun d hd => List.all_eq_true.mp h1 d hd, ?_, ?_, fun d hd => by simpa using List.all_eq_true.mp h4 d hd, h5⟩
  · intro x hx y hy
    obtain ⟨a, ha, rfl⟩ := List.mem_map.mp hx
    obtain ⟨b, hb, rfl⟩ := List.mem_map.mp hy
    exact List.all_eq_true.mp (List.all_eq_true.mp h2 a ha) b hb
  · rcases Bool.or_eq_true _ _ |>.mp h3 with h | h
    · refine .inl fun x hx => ?_
      obtain ⟨a, ha, rfl⟩ := List.mem_map.mp hx
      exact isTupD_py (List.all_eq_true.mp h a ha)
    · refine .inr fun x hx => ?_
      obtain ⟨a, ha, rfl⟩ := List.mem_map.mp hx
      obtain ⟨i, hi⟩ := isIntD_py (List.all_eq_true.mp h a ha)
      rw [hi]
      exact ⟨(by intro z; cases z), (by intro xs z; cases z)⟩
def Rof (c : Cf) (F : Hp) (v : Value) (d : D) : Prop := ∃ x, RelV x v ∧ FD c F x d
theorem rof_of {F : Hp} : ∀ {ds : List D} {xs : List V} {vs : List Value}, FDs c F xs ds → Vals xs vs → PySem.W.EachIs (Rof c F) vs ds
  | _, _, _, .nil, .nil => .nil
  | _, _, _, .cons a t, .cons r s => .cons ⟨_, r, a⟩ (rof_of t s)
theorem of_rof {F : Hp} : ∀ {vs : List Value} {ds : List D}, PySem.W.EachIs (Rof c F) vs ds → ∃ xs, Vals xs vs ∧ FDs c F xs ds
  | _, _, .nil => ⟨[], .nil, .nil⟩
  | _, _, .cons ⟨x, r, a⟩ t => let ⟨xs, s, k⟩ := of_rof t; ⟨x :: xs, .cons r s, .cons a k⟩
/-- the rest of sorted(..) behind the gathering -/
theorem sorted_fin {pins : List (Addr × Obj)} {σ : L2.St} {H F : Hp} {s : Shared} {Q : VK} (k : CfOk c X) (hu : X.A.units + 64 < cLine) (I : Inv X pins σ H s) (sub : Ex F H) (nt : ∀ a ps, F a ≠ some (.tbl ps)) {ds : List D} {xs : List V} {vs : List Value} (hv : Vals xs vs) (hf : FDs c F xs ds) (hs : SortP ds)
    (q : ∀ v H' F', Nx c none F H F' H' → FD c F' v (.lst (sortD ds)) → Q v H') :
    wpAny (model X.prog X.w) X.A.in1 (newList vs >>= fun l => holding [l] (call (.builtin "list.sort") [l] []) >>= fun _ => ret l) (fun r s' => ∃ v, r = .done (.ret v) ∧ EP X pins σ Q v s') X.xe s := by
  have e := rof_of hf hv
  have er : PySem.W.EachIs (fun v b => ∃ as, Reads s.heap v (toPy b) as) vs ds := by
    refine PySem.W.EachIs.of_zip e.length fun p hp => ?_
    obtain ⟨x, r, a⟩ := e.zip p hp
    have e1 := a.dp sub (hs.p p.2 (List.of_mem_zip hp).2)
    rw [k.K] at e1
    exact Dp.reads I _ _ _ e1 r
  refine sort_rest (R := Rof c F) e er hs.al hs.s2 (small_sz hs.len) (fun b hb => ?_) fun out p h' n ho hk hp hg => ?_
  · have := hs.dp b hb
    show X.A.units + 1 + 1 + _ < _
    omega
  · obtain ⟨ys, y1, y2⟩ := of_rof ho
    have hn : H p = none := I.hok.fresh hp
    have n2 := Nx.lay (c := c) (ad := none) (o := .lst ys) sub nt hn (by intro ps z; cases z)
    refine ⟨_, rfl, .ref p, upd H p (.lst ys), I.laid (t' := s.toks) hk hp ⟨?_, out, n, y1, hg⟩, rfl, q _ _ _ n2 (.lst upd_same (y2.mono n2.fe))⟩
    rw [y2.length]
    have : (sortD ds).length = ds.length := List.length_mergeSort _
    show (sortD ds).length ≤ _
    rw [this]
    exact small_sz hs.len
def seqItems : D → Option (List D)
  | .lst ds => some ds
  | .tup ds => some ds
  | .dic _ kvs => some (kvs.map (·.1))
  | _ => none
def dSorted : List D → Option D
  | [x] => (seqItems x).bind fun ds => if sortOk ds = true then some (.lst (sortD ds)) else none
  | _ => none
theorem FDk.keys {F : Hp} : ∀ {es : List (NestedKey × Addr × V)} {kvs : List (D × D)}, FDk c F es kvs → FDs c F (es.map fun x => V.ref x.2.1) (kvs.map (·.1))
  | _, _, .nil => .nil
  | _, _, .cons _ _ a _ t => .cons a t.keys
theorem cr_sortedD (k : CfOk c X) (hc : X.calm = true) (hu : X.A.units + 64 < cLine) : CallR X (.builtin "sorted") (rDs c dSorted) := by
  intro pins s σ H xs us Q I r h
  obtain ⟨F, ds, d, sub, nt, fs, e, q⟩ := h
  unfold dSorted at e
  split at e <;> try (cases e; done)
  rename_i d1
  obtain ⟨its, e1, e⟩ := Option.bind_eq_some_iff.mp e
  split at e <;> try (cases e; done)
  rename_i ho
  injection e with e
  subst e
  have hs := sortP ho
  cases fs with
  | cons f1 fs =>
  cases fs
  rename_i x
  obtain ⟨u, rfl, rx⟩ := vals1 r
  refine PySem.Calls.call_function_entry kind_sorted plain_sorted entry_sorted (args_sorted1 _) ?_
  unfold Builtin.«sorted»
  refine wpAny_bind (m := checkCount "sorted" 1 1 _) (wpAny_pure ?_)
  unfold seqItems at e1
  split at e1 <;> try (cases e1; done)
  · injection e1 with e1
    subst e1
    cases f1 with
    | @lst a ys _ h1 g1 =>
    have rx : u = Value.ref a := rx
    subst rx
    obtain ⟨vs, rv, pl, hz⟩ := I.list (show SqL X.K H a ys from .inl (.inl (sub _ _ h1)))
    refine wpAny_bind (collect_list (A := X.A.in1) pl.isList ?_ (by rw [← rv.length, g1.length]; exact small_sz hs.len))
    exact sorted_fin k hu (I.kept (t' := s.toks) fun b o hb => by rw [Heap.get?_update_ne _ _ _ _ (Nat.ne_of_lt (Heap.lt_size hb))]; exact Heap.get?_push_of_some _ hb) sub nt rv g1 hs q
  · injection e1 with e1
    subst e1
    cases f1 with
    | @tup a ys _ h1 g1 =>
    have rx : u = Value.ref a := rx
    subst rx
    rw [k.K] at h1
    obtain ⟨vs, rv, pl, hz⟩ := I.tuple (sub.sqT h1)
    refine wpAny_bind (collect_tup (A := X.A.in1) pl (by rw [← rv.length, g1.length]; exact small_sz hs.len) fun h' hk => ?_)
    exact sorted_fin k hu (I.kept (t' := s.toks) hk) sub nt rv g1 hs q
  · rename_i z kvs
    injection e1 with e1
    subst e1
    obtain ⟨p, es, ex, hp, fk⟩ := f1.dic_inv
    subst ex
    have rx : u = Value.ref p := rx
    subst rx
    obtain ⟨ys, ry, dd, z1, z2⟩ := dN_at k I sub (sub.rd hp) fk
    obtain ⟨ees, ep, raw, hsz, hat⟩ := dd.raw
    have hl : ees.size = es.length := by rw [hsz, ry.length]
    refine wpAny_bind (PySem.W.kdu_collect (A := X.A.in1) (KdlSrc.rawDict z1) (I.ok.hd hc) raw (by rw [hl]; exact z2) fun h' tk acc hk hacc => ?_)
    refine sorted_fin k hu (I.kept (t' := tk) hk) sub nt (xs := es.map fun x => V.ref x.2.1) ?_ fk.keys hs q
    have : acc.toList = es.map fun x => Value.ref x.2.1 := by
      apply List.ext_getElem?
      intro i
      rw [Array.getElem?_toList]
      by_cases hi : i < es.length
      · have hi2 : i < acc.size := by rw [hacc.1, hl]; exact hi
        have ha : acc[i]? = some acc[i] := Array.getElem?_eq_getElem hi2
        obtain ⟨hi3, hv⟩ := hacc.2 i _ ha
        obtain ⟨y, hy, hk2, _⟩ := hat i hi3
        have hi4 : i < ys.length := by rw [← ry.length]; exact hi
        have hke : ∀ {es : List (NestedKey × Addr × V)} {ys : List (NestedKey × Addr × Value)} {i : Nat} {y}, EsR es ys → ys[i]? = some y → ∃ x, es[i]? = some x ∧ x.2.1 = y.2.1 := by
          intro es ys i y r
          induction r generalizing i with
          | nil => intro z; simp at z
          | cons a t ih =>
            intro z
            cases i with
            | zero => simp at z; subst z; exact ⟨_, rfl, a.2.1⟩
            | succ i => simpa using ih (by simpa using z)
        obtain ⟨x, hx, hxe⟩ := hke ry hy
        rw [ha, hv, hk2, List.getElem?_map, hx, Option.map_some, hxe]
      · rw [Array.getElem?_eq_none (by rw [hacc.1, hl]; omega), List.getElem?_eq_none (by simpa using hi)]
    rw [this]
    have : ∀ es : List (NestedKey × Addr × V), Vals (es.map fun x => V.ref x.2.1) (es.map fun x => Value.ref x.2.1) := by
      intro es
      induction es with
      | nil => exact .nil
      | cons e es ih => exact .cons rfl ih
    exact this es
end
end Dl
/-! set(xs) of tuples of ints, sorted(set). -/
namespace Dl
open PySem PySem.Spec PyProof.Rows L2
def asI : D → Option Int
  | .int i => some i
  | _ => none
def asTI : D → Option (List Int)
  | .tup ds => ds.mapM asI
  | _ => none
def tupsD (ds : List D) : Option (List (List Int)) := ds.mapM asTI
def dedup : List (List Int) → List (List Int)
  | [] => []
  | x :: xs => if x ∈ xs then dedup xs else x :: dedup xs
theorem mem_dedup {x : List Int} : ∀ {xs : List (List Int)}, x ∈ dedup xs ↔ x ∈ xs
  | [] => Iff.rfl
  | y :: ys => by
    unfold dedup
    split
    · rename_i h
      rw [mem_dedup, List.mem_cons]
      exact ⟨.inr, fun z => z.elim (fun e => e ▸ h) id⟩
    · rw [List.mem_cons, List.mem_cons, mem_dedup]
theorem nodup_dedup : ∀ (xs : List (List Int)), (dedup xs).Nodup
  | [] => List.nodup_nil
  | y :: ys => by
    unfold dedup
    split
    · exact nodup_dedup ys
    · rename_i h
      exact List.nodup_cons.mpr ⟨fun z => h (mem_dedup.mp z), nodup_dedup ys⟩
theorem asI_int : ∀ {ds : List D} {ns : List Int}, ds.mapM asI = some ns → ds = ns.map D.int := by
  intro ds
  induction ds with
  | nil => intro ns h; simp at h; subst h; rfl
  | cons d ds ih =>
    intro ns h
    rw [List.mapM_cons] at h
    obtain ⟨x, h1, h⟩ := Option.bind_eq_some_iff.mp h
    obtain ⟨xs, h2, h⟩ := Option.bind_eq_some_iff.mp h
    injection h with h
    subst h
    cases d <;> simp [asI] at h1
    subst h1
    rw [ih h2]
    rfl
theorem asTI_tup {d : D} {ns : List Int} (h : asTI d = some ns) : d = tupI ns := by
  cases d <;> simp only [asTI] at h <;> try (cases h; done)
  rw [asI_int h]
  rfl
theorem tupsD_tup : ∀ {ds : List D} {ks : List (List Int)}, tupsD ds = some ks → ds = ks.map tupI := by
  intro ds
  unfold tupsD
  induction ds with
  | nil => intro ns h; simp at h; subst h; rfl
  | cons d ds ih =>
    intro ns h
    rw [List.mapM_cons] at h
    obtain ⟨x, h1, h⟩ := Option.bind_eq_some_iff.mp h
    obtain ⟨xs, h2, h⟩ := Option.bind_eq_some_iff.mp h
    injection h with h
    subst h
    rw [ih h2, asTI_tup h1]
    rfl
theorem asTI_of (ns : List Int) : asTI (tupI ns) = some ns := by
  show (ns.map D.int).mapM asI = some ns
  induction ns with
  | nil => rfl
  | cons n ns ih =>
    rw [List.map_cons, List.mapM_cons, ih]
    rfl
theorem tupsD_of (ks : List (List Int)) : tupsD (ks.map tupI) = some ks := by
  unfold tupsD
  induction ks with
  | nil => rfl
  | cons n ns ih =>
    rw [List.map_cons, List.mapM_cons, ih, asTI_of]
    rfl
def dSet : List D → Option D
  | [.lst ds] => (tupsD ds).bind fun ks => if (dedup ks).length < 63 ∧ ds.length ≤ 100000 then some (.setD ((dedup ks).map tupI)) else none
  | _ => none
def dSortedS : List D → Option D
  | [.setD ds] => (tupsD ds).bind fun _ => if sortOk ds = true then some (.lst (sortD ds)) else none
  | _ => none
/-! ### the order of tuples of ints -/
theorem toPys_ints : ∀ ns : List Int, toPys (ns.map D.int) = ns.map PyData.int
  | [] => by simp [toPys]
  | n :: ns => by simp [toPys, toPy, toPys_ints ns]
theorem toPy_tupI (ns : List Int) : toPy (tupI ns) = .tuple (ns.map PyData.int) := by
  unfold tupI
  rw [toPy, toPys_ints]
theorem dataLe_tupI (a b : List Int) : PySem.W.dataLe false toPy (tupI a) (tupI b) = decide (a ≤ b) := by
  show (!PySem.W.dataLt (toPy (tupI b)) (toPy (tupI a))) = _
  rw [toPy_tupI, toPy_tupI, PySem.W.dataLt_tuple]
  have := PySem.W.dataLt_ints b a
  unfold PySem.W.rowLt at this
  rw [this, ← decide_not]
  rfl
theorem sortD_tupI (ks : List (List Int)) : sortD (ks.map tupI) = (ks.mergeSort (fun a b => decide (a ≤ b))).map tupI := by
  unfold sortD
  exact (List.map_mergeSort fun a _ b _ => (dataLe_tupI a b).symm).symm
theorem lex_tot (a b : List Int) : (decide (a ≤ b) || decide (b ≤ a)) = true := by
  rcases List.le_total a b with h | h <;> simp [h]
theorem lex_tr (a b d : List Int) : decide (a ≤ b) = true → decide (b ≤ d) = true → decide (a ≤ d) = true := by
  simp only [decide_eq_true_eq]
  exact List.le_trans
theorem sortI_perm {ks ls : List (List Int)} (h : ks.Perm ls) : ks.mergeSort (fun a b => decide (a ≤ b)) = ls.mergeSort (fun a b => decide (a ≤ b)) := by
  refine List.Perm.eq_of_pairwise (le := fun a b => decide (a ≤ b) = true) (fun a b _ _ h1 h2 => List.le_antisymm (of_decide_eq_true h1) (of_decide_eq_true h2)) (List.pairwise_mergeSort lex_tr lex_tot ks) (List.pairwise_mergeSort lex_tr lex_tot ls) ?_
  exact (List.mergeSort_perm ks _).trans (h.trans (List.mergeSort_perm ls _).symm)
theorem tupI_inj {a b : List Int} (h : tupI a = tupI b) : a = b := by
  have := congrArg asTI h
  rw [asTI_of, asTI_of] at this
  exact Option.some.inj this
theorem perm_tupI {ks ls : List (List Int)} (h : (ks.map tupI).Perm (ls.map tupI)) : ks.Perm ls := by
  have := h.map asTI
  rw [List.map_map, List.map_map] at this
  have e : ∀ ks : List (List Int), ks.map (asTI ∘ tupI) = ks.map some := fun ks => List.map_congr_left fun a _ => asTI_of a
  rw [e, e] at this
  have := this.map (Option.getD · [])
  simpa [List.map_map, Function.comp_def] using this
theorem sortD_perm {ds es : List D} {ks : List (List Int)} (hk : tupsD ds = some ks) (h : es.Perm ds) {ls : List (List Int)} (hl : es = ls.map tupI) : sortD es = sortD ds := by
  have := tupsD_tup hk
  subst this
  subst hl
  rw [sortD_tupI, sortD_tupI, sortI_perm (perm_tupI h)]
section
variable {c : Cf} {X : Cx} {W : WX'} {te ta tb ti : TE} {f f1 f2 : EDn} {tas : TA} {l : LDn}
theorem SortP.perm {ds es : List D} (h : SortP ds) (p : es.Perm ds) : SortP es := by
  refine ⟨fun d hd => h.p d (p.mem_iff.mp hd), fun x hx y hy => ?_, ?_, fun d hd => h.dp d (p.mem_iff.mp hd), by rw [p.length_eq]; exact h.len⟩
  · exact h.al x ((p.map toPy).mem_iff.mp hx) y ((p.map toPy).mem_iff.mp hy)
  · rcases h.s2 with a | a
    · exact .inl fun x hx => a x ((p.map toPy).mem_iff.mp hx)
    · exact .inr fun x hx => a x ((p.map toPy).mem_iff.mp hx)
theorem rows_of {F : Hp} {K : PySem.W.Frag} (hK : c.K = K) : ∀ {xs : List V} {ks : List (List Int)}, FDs c F xs (ks.map tupI) → ∃ L : List (Addr × List Int), xs = L.map (fun p => V.ref p.1) ∧ ks = L.map (·.2) ∧ ∀ p ∈ L, SqT K F p.1 (p.2.map V.int) ∧ FD c F (.ref p.1) (tupI p.2)
  | xs, [], h => by
    cases h
    exact ⟨[], rfl, rfl, fun p hp => by simp at hp⟩
  | xs, k :: ks, h => by
    rw [List.map_cons] at h
    cases h with
    | cons a t =>
    obtain ⟨L, e1, e2, e3⟩ := rows_of hK t
    cases id a with
    | @tup b ys _ h1 h2 =>
    have : ys = k.map V.int := intsD_at h2 (by
      clear h2 h1 a t e1 e2 e3
      induction k with
      | nil => rfl
      | cons n k ih => simp [intsD, ih])
    subst this
    refine ⟨(b, k) :: L, by rw [List.map_cons, e1], by rw [List.map_cons, e2], fun p hp => ?_⟩
    rcases List.mem_cons.mp hp with rfl | hp
    · exact ⟨by rw [← hK]; exact h1, a⟩
    · exact e3 p hp
theorem len_sub : ∀ {L K : List (List Int)}, L.Nodup → (∀ x ∈ L, x ∈ K) → L.length ≤ K.length
  | [], K, _, _ => Nat.zero_le _
  | x :: L, K, hn, h => by
    have hx : x ∈ K := h x (by simp)
    obtain ⟨n1, n2⟩ := List.nodup_cons.mp hn
    have := len_sub (L := L) (K := K.erase x) n2 fun y hy => (List.mem_erase_of_ne (fun z : y = x => n1 (z ▸ hy))).mpr (h y (by simp [hy]))
    rw [List.length_erase_of_mem hx] at this
    have hp : 0 < K.length := List.length_pos_of_mem hx
    rw [List.length_cons]
    omega
theorem ord_refs {vs ws : List Value} (pm : vs.Perm ws) : ∀ L : List (Addr × List Int), L.map (fun q => Value.ref q.1) = ws → ∃ L1 : List (Addr × List Int), vs = L1.map (fun q => Value.ref q.1) ∧ L1.Perm L := by
  induction pm with
  | nil =>
    intro L hw
    cases L with
    | nil => exact ⟨[], rfl, .refl _⟩
    | cons _ _ => simp at hw
  | cons x _ ih =>
    intro L hw
    cases L with
    | nil => simp at hw
    | cons p L =>
      simp only [List.map_cons, List.cons.injEq] at hw
      obtain ⟨L1, e, pp⟩ := ih L hw.2
      exact ⟨p :: L1, by rw [List.map_cons, e, hw.1], pp.cons p⟩
  | swap x y l =>
    intro L hw
    cases L with
    | nil => simp at hw
    | cons p L =>
      cases L with
      | nil => simp at hw
      | cons p2 L =>
        simp only [List.map_cons, List.cons.injEq] at hw
        exact ⟨p2 :: p :: L, by rw [List.map_cons, List.map_cons, hw.1, hw.2.1, hw.2.2], .swap p p2 L⟩
  | trans p1 p2 ih1 ih2 =>
    intro L hw
    obtain ⟨L1, e1, q1⟩ := ih2 L hw
    obtain ⟨L2, e2, q2⟩ := ih1 L1 e1.symm
    exact ⟨L2, e2, q2.trans q1⟩
theorem cr_setD (k : CfOk c X) (hc : X.calm = true) (hu : X.A.units + 64 < cLine) : CallR X (.type "set") (rDs c dSet) := by
  intro pins s σ H xs us Q I r h
  obtain ⟨F, ds, d, sub, nt, fs, e, q⟩ := h
  unfold dSet at e
  split at e <;> try (cases e; done)
  rename_i ds
  obtain ⟨ks, e1, e⟩ := Option.bind_eq_some_iff.mp e
  split at e <;> try (cases e; done)
  rename_i hz
  injection e with e
  subst e
  have e1 := tupsD_tup e1
  subst e1
  cases fs with
  | cons f1 fs =>
  cases fs
  cases f1 with
  | @lst a ys _ h1 g1 =>
  obtain ⟨L, ex, ek, hL⟩ := rows_of k.K g1
  subst ex
  subst ek
  rw [Vals.ref1 r]
  obtain ⟨its, rv, pl, hzz⟩ := I.list (show SqL X.K H a _ from .inl (.inl (sub _ _ h1)))
  have hn : H s.heap.objs.size = none := I.hok.fresh (Nat.le_refl _)
  have few : Few L := fun M hM hm => by
    have h2 : (M.map (·.2)).length ≤ (dedup (L.map (·.2))).length := len_sub hM fun x hx => by
      obtain ⟨p, hp, rfl⟩ := List.mem_map.mp hx
      exact mem_dedup.mpr (List.mem_map.mpr ⟨p, hm p hp, rfl⟩)
    rw [List.length_map] at h2
    omega
  refine set_long (P := X.prog) (w := X.w) L (I.ok.hd hc) pl.isList (by simpa using refs_of_vals rv) (fun p hp => I.isT (sub.sqT (hL p hp).1)) few (by omega) fun s2 hs2 => ?_
  obtain ⟨h', tk, M, es, ep, t, rfl, R, g, kk⟩ := hs2
  have mem : ∀ p ∈ M, p ∈ L := fun p hp => List.mem_of_mem_take (g.sub p hp)
  have fm : ∀ F', Ex F F' → FDs c F' (M.map fun p => V.ref p.1) (M.map fun p => tupI p.2) := fun F' ex => by
    have : ∀ M : List (Addr × List Int), (∀ p ∈ M, p ∈ L) → FDs c F' (M.map fun p => V.ref p.1) (M.map fun p => tupI p.2) := by
      intro M
      induction M with
      | nil => intro _; exact .nil
      | cons m M ih => intro hm; exact .cons ((hL m (hm m (by simp))).2.mono ex) (ih fun p hp => hm p (by simp [hp]))
    exact this M mem
  have n2 := Nx.lay (c := c) (ad := none) (o := SetTO X.prog X.w s.heap.objs.size M) sub nt hn (by intro ps z; unfold SetTO at z; cases z)
  refine ⟨.ref s.heap.objs.size, upd H s.heap.objs.size (SetTO X.prog X.w s.heap.objs.size M), I.laid (t' := tk) kk (Nat.le_refl _) (setTO_new R.t0), rfl, q _ _ _ n2 (.set (by rw [k.P, k.w]; exact upd_same) (fm _ n2.fe) ?_)⟩
  have : (M.map (·.2)).Perm (dedup (L.map (·.2))) := by
    refine (List.perm_ext_iff_of_nodup R.nd (nodup_dedup _)).mpr fun x => ⟨fun hx => ?_, fun hx => ?_⟩
    · obtain ⟨p, hp, rfl⟩ := List.mem_map.mp hx
      exact mem_dedup.mpr (List.mem_map.mpr ⟨p, mem p hp, rfl⟩)
    · obtain ⟨p, hp, rfl⟩ := List.mem_map.mp (mem_dedup.mp hx)
      exact g.all p (by rw [List.take_length]; exact hp)
  have := this.map tupI
  rwa [List.map_map] at this
theorem cr_sortedS (k : CfOk c X) (hc : X.calm = true) (hu : X.A.units + 64 < cLine) : CallR X (.builtin "sorted") (rDs c dSortedS) := by
  intro pins s σ H xs us Q I r h
  obtain ⟨F, ds, d, sub, nt, fs, e, q⟩ := h
  unfold dSortedS at e
  split at e <;> try (cases e; done)
  rename_i ds
  obtain ⟨ks, e1, e⟩ := Option.bind_eq_some_iff.mp e
  split at e <;> try (cases e; done)
  rename_i ho
  injection e with e
  subst e
  have hs := sortP ho
  cases fs with
  | cons f1 fs =>
  cases fs
  cases f1 with
  | @set a L _ h1 h2 h3 =>
  rw [Vals.ref1 r]
  have ha : H a = some (SetTO X.prog X.w a L) := by rw [← k.P, ← k.w]; exact sub _ _ h1
  have R0 : SetT0 X.prog X.w s.heap a L := (I.hok a _ ha).1
  have h2' := h2
  rw [show (L.map fun p => tupI p.2) = (L.map (·.2)).map tupI by rw [List.map_map]; rfl] at h2'
  obtain ⟨L', ex, ek, hL⟩ := rows_of k.K h2'
  have eL : L = L' := by
    have e1 : L.map (·.1) = L'.map (·.1) := by
      have := congrArg (List.map fun v => match v with | V.ref a => a | _ => 0) ex
      simpa [List.map_map, Function.comp_def] using this
    clear h1 h2 h2' h3 ha R0 hL ex
    induction L generalizing L' with
    | nil => cases L' with
      | nil => rfl
      | cons _ _ => simp at e1
    | cons p L ih => cases L' with
      | nil => simp at e1
      | cons p' L' =>
        simp only [List.map_cons, List.cons.injEq] at e1 ek
        rw [ih L' ek.2 e1.2, Prod.ext e1.1 ek.1]
  subst eL
  obtain ⟨es, ep, t, R⟩ := R0.full fun p hp => I.isT (sub.sqT (hL p hp).1)
  refine PySem.Calls.call_function_entry kind_sorted plain_sorted entry_sorted (args_sorted1 _) ?_
  unfold Builtin.«sorted»
  refine wpAny_bind (m := checkCount "sorted" 1 1 _) (wpAny_pure ?_)
  obtain ⟨o, ho', hex, hd⟩ := R.ob
  have hsz := R.size
  have hfew := R.few
  refine wpAny_bind (collect_set (A := X.A.in1) (I.ok.hd hc) ⟨o, ho', hex.1, hd⟩ R.fits (by unfold scanBound; omega) R.tab.ris R.led fun s1 vs k1 hz g1 o1 pm => ?_)
  have I1 : Inv X pins σ H s1 := I.call' (ch := []) o1 (Un.kept k1) (I.hok.kept k1) (by rw [g1]; exact I.bare) (fun _ z => nomatch z)
  have hes : es.toList.map (·.2) = L.map fun q => Value.ref q.1 := by
    rw [R.rows]
    unfold rowsOf
    rw [List.map_map] <;> rfl
  rw [hes] at pm
  obtain ⟨L1, e4, p4⟩ := ord_refs pm L rfl
  subst e4
  have fm : FDs c F (L1.map fun p => V.ref p.1) (L1.map fun p => tupI p.2) := by
    have : ∀ M : List (Addr × List Int), (∀ p ∈ M, p ∈ L) → FDs c F (M.map fun p => V.ref p.1) (M.map fun p => tupI p.2) := by
      intro M
      induction M with
      | nil => intro _; exact .nil
      | cons m M ih => intro hm; exact .cons (hL m (hm m (by simp))).2 (ih fun p hp => hm p (by simp [hp]))
    exact this L1 fun p hp => p4.mem_iff.mp hp
  have pd : (L1.map fun p => tupI p.2).Perm ds := (p4.map fun p => tupI p.2).trans h3
  refine sorted_fin k hu I1 sub nt (vals_of_refs L1) fm (hs.perm pd) fun v H' F' n fv => q v H' F' n ?_
  rw [sortD_perm e1 pd (ls := L1.map (·.2)) (by rw [List.map_map]; rfl)] at fv
  exact fv
end
end Dl
/-! Walks: the keys of a frozen dict, enumerate(tuple), zip(tuple, tuple). -/
namespace Dl
open PySem PySem.Spec PyProof.Rows L2
/-! ### keys -/
def ItN (c : Cf) (d : Addr) (od : Obj) (es : List (NestedKey × Addr × V)) : It :=
  ⟨fun i H => H d = some (.frz od (dN c d es)) ∧ i < es.length, fun i H v H' => H' = H ∧ ∃ x, es[i]? = some x ∧ v = .ref x.2.1, fun i H => H d = some (.frz od (dN c d es)) ∧ es.length ≤ i⟩
section
variable {c : Cf}
theorem frzN {X : Cx} {pins : List (Addr × Obj)} {σ : L2.St} {H : Hp} {s : Shared} {d : Addr} {o : Obj} {es : List (NestedKey × Addr × V)} (I : Inv X pins σ H s) (h : H d = some (.frz o (dN c d es))) :
    (d == sysModules) = false ∧ s.heap.get? d = some o ∧ o.ExactDict ∧ ∃ (de : Array DictEntry) (ep : Nat), o.data = .dict de ep ∧ de.size = es.length ∧
      ∀ (i : Nat) x, es[i]? = some x → ∃ en : DictEntry, de[i]? = some en ∧ en.key = .ref x.2.1 := by
  have z := I.hok d _ h
  obtain ⟨hd, z⟩ := z
  unfold dN at z
  obtain ⟨⟨z1, z2, xs, pr, o', de, ep, ho, hx, hdt, he, _⟩, _⟩ := z
  rw [hd] at ho
  cases ho
  refine ⟨z2, hd, hx, de, ep, hdt, ?_, fun i x e => ?_⟩
  · have l1 : de.size = xs.length := size_of_entries he
    have l2 : es.length = xs.length := Paired.length pr
    omega
  · obtain ⟨b, hb, e1, e2, _⟩ := paired_get pr e
    have q := entry_at he i
    rw [hb] at q
    exact ⟨_, q, by rw [e2]; rfl⟩
theorem turn_keysN {P : Program} {w : World} {K : PySem.W.Frag} {tg : Expr} {d : Addr} {o : Obj} {de : Array DictEntry} {ep : Nat} {es : List (NestedKey × Addr × V)} (it : Addr) (hod : o.data = .dict de ep) : Turn P w K tg (ItN c d o es) [it] it (fun i h => h.IsKeyIter it d i es.length ep) where
  mem := by simp
  obj := fun i h st b hb => by
    have e : b = it := by simpa using hb
    subst e
    obtain ⟨oi, e, k, dd⟩ := st
    exact ⟨oi, e, fun v z => by rw [dd] at z; cases z⟩
  keep := fun i h h' st k => st.at fun oi e => k it (by simp) oi e
  item := by
    intro X hP hw hK hc i pins s σ H E I hf st hg
    subst hP hw hK
    obtain ⟨hd, hi⟩ := hg
    obtain ⟨f0, f1, f2, f3, f4, f5⟩ := hf it (by simp)
    obtain ⟨hs, hgd, hx, es', ep', hdt, hsz, ent⟩ := frzN I hd
    obtain ⟨rfl, rfl⟩ := dict_ep hod hdt
    have hkv : es[i]? = some es[i] := List.getElem?_eq_getElem hi
    obtain ⟨en, hen, hkey⟩ := ent i _ hkv
    refine next_key_item st hgd hdt hsz hen fun h' st' sb => ?_
    have I1 : Inv X pins σ H { s with heap := h' } := I.turned (t' := s.toks) (fun b ob hb e => (sb.2 b hb).trans e) f0 f1 f3 f4 f5
    obtain ⟨oi, e, k, dd⟩ := id st'
    exact ⟨en.key, rfl, go_of (s := { s with heap := h' }) e k dd (by decide) ⟨.ref es[i].2.1, H, I1, hkey, ⟨rfl, _, hkv, rfl⟩, st', fun b hb => (hf b hb).1⟩⟩
  done := by
    intro X hP hw hK hc i pins s σ H E I hf st hg
    subst hP hw hK
    obtain ⟨hd, hi⟩ := hg
    obtain ⟨f0, f1, f2, f3, f4, f5⟩ := hf it (by simp)
    obtain ⟨hs, hgd, hx, es', ep', hdt, hsz, ent⟩ := frzN I hd
    obtain ⟨rfl, rfl⟩ := dict_ep hod hdt
    exact next_key_end (I.ok.hd hc) st hgd hdt hsz hi fun h' eb => ⟨rfl, I.turned (t' := s.toks) (fun b ob hb e => eb b ob hb e) f0 f1 f3 f4 f5⟩
  self := fun A i s Q E st h => wpAny_pyIter_keyiter st h
def iKeysN (c : Cf) (td : TE) : TI := fun σ H R => td σ H fun x H1 => ∃ d o es, x = .ref d ∧ H1 d = some (.frz o (dN c d es)) ∧ R (ItN c d o es) H1
theorem pi_keysN {X : Cx} {tg e : Expr} {td : TE} (he : PE X e td) : PI X tg e (iKeysN c td) := by
  refine ⟨fun pins s σ H R I h => ?_⟩
  refine thn (he.run pins s σ H _ I h) fun u s1 ⟨x, H1, I1, rx, d, o, es, ex, hd, q⟩ => ?_
  subst ex
  obtain rfl : u = Value.ref d := rx
  obtain ⟨hs, hgd, hx, de, ep, hdt, hsz, ent⟩ := frzN I1 hd
  refine iter_keys hs hgd hx hdt (pi_one (tk := s1.toks) I1 _ (turn_keysN _ hdt) ⟨_, Heap.get?_push_size _ rfl, rfl, ?_⟩ q)
  rw [hsz] <;> rfl
def lItemsK (f : EDn) : LDn := fun Γ hs => (f Γ hs).bind fun r => match r.1 with
  | .dic true kvs => some (kvs.map (·.1), r.2)
  | _ => none
theorem FDk.keyAt {F : Hp} : ∀ {es : List (NestedKey × Addr × V)} {kvs : List (D × D)} {i : Nat} {d : D}, FDk c F es kvs → (kvs.map (·.1))[i]? = some d → ∃ x, es[i]? = some x ∧ FD c F (.ref x.2.1) d
  | _, _, _, _, .nil, e => by simp at e
  | _, _, 0, _, .cons _ _ a _ _, e => by simp at e; subst e; exact ⟨_, rfl, a⟩
  | _, _, i + 1, d, .cons _ _ _ _ t, e => by
    obtain ⟨x, h1, h2⟩ := FDk.keyAt (i := i) (d := d) t (by simpa using e)
    exact ⟨x, by simpa using h1, h2⟩
theorem DSF.pushes {B : Ba} {hs : HS} {Γ : Env} {tmp ex : List (D × V)} {σ : L2.St} {H F : Hp} {ow : Nat → Addr} (d : DSF c B hs Γ tmp σ H F ow) (h : ∀ p ∈ ex, FD c F p.2 p.1) : DSF c B hs Γ (ex ++ tmp) σ H F ow :=
  ⟨d.sub, d.nt, d.ex0, d.new, d.old, d.hF, d.hH, d.tabs, d.len, d.slot, d.sep, fun p hp => (List.mem_append.mp hp).elim (h p) (d.tmp p), d.hid, d.hnd⟩
theorem zip_at {F : Hp} : ∀ {ds : List D} {vs : List V} {i : Nat} {d : D} {v : V}, ds[i]? = some d → vs[i]? = some v → (d, v) ∈ ds.zip vs
  | [], _, _, _, _, e, _ => by simp at e
  | _ :: _, [], _, _, _, _, e => by simp at e
  | d :: ds, v :: vs, 0, _, _, e, e2 => by simp at e e2; subst e e2; simp
  | d :: ds, v :: vs, i + 1, _, _, e, e2 => by
    rw [List.zip_cons_cons]
    exact List.mem_cons_of_mem _ (zip_at (F := F) (i := i) (by simpa using e) (by simpa using e2))
theorem si_keysN {te : TE} {f : EDn} (h : Snd c te f) : SndI c (iKeysN c te) (lItemsK f) := by
  intro B hs Γ tmp σ H D0 items hs' e R q
  unfold lItemsK at e
  obtain ⟨⟨x, hs1⟩, e1, e⟩ := Option.bind_eq_some_iff.mp e
  split at e <;> try (cases e; done)
  rename_i kvs hx
  have hx : x = .dic true kvs := hx
  subst hx
  injection e with e
  injection e with e2 e3
  have e2 : kvs.map (·.1) = items := e2
  have e3 : hs1 = hs' := e3
  subst e2 e3
  refine h B hs Γ tmp σ H D0 _ _ e1 _ fun v H1 a1 D1 k1 => ?_
  obtain ⟨F1, ow1, d1⟩ := id D1
  have fv := d1.tmp (.dic true kvs, v) (by simp)
  cases fv with
  | @dicT a od es _ ha hk =>
  have hl := hk.length
  have hz : ∀ p ∈ (kvs.map (·.1)).zip (es.map fun x => V.ref x.2.1), FD c F1 p.2 p.1 := fun p hp => by
    obtain ⟨i, hi⟩ := List.getElem?_of_mem hp
    obtain ⟨h1, h2⟩ := List.getElem?_zip_eq_some.mp hi
    obtain ⟨x, h3, h4⟩ := hk.keyAt h1
    rw [List.getElem?_map, h3] at h2
    injection h2 with h2
    rw [← h2]
    exact h4
  refine ⟨a, od, es, rfl, d1.sub _ _ ha, q _ _ ((.pin (.frz od (dN c a es)), .ref a) :: (kvs.map (·.1)).zip (es.map fun x => V.ref x.2.1)) a1 ⟨F1, ow1, d1.pop.pushes fun p hp => ?_⟩ k1 ?_⟩
  · rcases List.mem_cons.mp hp with rfl | hp
    · exact .pin ha
    · exact hz p hp
  intro F H' sub nt hex
  have fp := hex (.pin (.frz od (dN c a es)), .ref a) (by simp)
  cases fp with
  | pin hp =>
  refine ⟨fun i d hi => ?_, ⟨sub _ _ hp, by rw [List.length_map, hl]; exact Nat.le_refl _⟩⟩
  have hil : i < es.length := by
    have := (List.getElem?_eq_some_iff.mp hi).1
    rw [List.length_map] at this
    omega
  refine ⟨⟨sub _ _ hp, hil⟩, fun y H2 hy => ?_⟩
  obtain ⟨rfl, x, hx, rfl⟩ := hy
  refine ⟨F, Nx.stay sub nt (Ex.refl _), ?_⟩
  exact hex (d, .ref x.2.1) (List.mem_cons_of_mem _ (zip_at (F := F) hi (by rw [List.getElem?_map, hx]; rfl)))
end
/-! ### enumerate(tuple) -/
theorem enum_newB {v : Value} {o : Obj} {H : Heap → Prop} (B : Begins v o H) :
    Meets (Builtin.«enumerate.__new__» ⟨[.type "enumerate", v], []⟩) (fun _ R s => H s.heap ∧
      R (.ok (.ret (.ref (s.heap.push o).objs.size))) { s with heap := (s.heap.push o).push { cls := .type "enumerate", data := .fields #[.none, .bool false, .ref s.heap.objs.size, rawInt 0, .none, .none] } }) :=
  .of_wp fun prog w A R s h => by
    obtain ⟨hp, g, d, tk, os⟩ := s
    obtain ⟨h1, h⟩ := h
    have hsub := sub_enumerate
    have q1 : ∀ {A' : Around} {E : Value → Shared → Prop} {Q : Value → Shared → Prop}, Q (.ref hp.objs.size) ⟨hp.push o, g, d, tk, os⟩ → wpAny (model prog w) A' (pyIter v) Q E ⟨hp, g, d, tk, os⟩ :=
      fun q => B.iter prog w _ _ ⟨hp, g, d, tk, os⟩ _ h1 q
    wp_walk using q1
    refine wpAny_stack_any fun st => wpAny_pure ?_
    split
    · rename_i c _ _ _ _ _
      cases (c == Value.type "enumerate")
      · wp_walk using q1
        exact ⟨_, rfl, h⟩
      · wp_walk using q1
        exact ⟨_, rfl, h⟩
    · wp_walk using q1
      exact ⟨_, rfl, h⟩
theorem call_enumB {prog : Program} {w : World} {A : Around} {E : Value → Shared → Prop} {s : Shared} {v : Value} {o : Obj} {H : Heap → Prop} {Q : Value → Shared → Prop} (B : Begins v o H) (h1 : H s.heap)
    (h : ∀ h', IsEnum h' (s.heap.objs.size + 1) s.heap.objs.size 0 .none → h'.get? s.heap.objs.size = some o → (∀ b o, s.heap.get? b = some o → h'.get? b = some o) → Q (.ref (s.heap.objs.size + 1)) { s with heap := h' }) :
    wpAny (model prog w) A (call (.type "enumerate") [v]) Q E s := by
  refine callType_new F.called_enumerate (by decide) (F.typeCall_enumerate_1 _) (F.newCall_enumerate_1 _) (fun obj => F.args_object_init_2 obj _) F.entry_enumerate_new
    (enum_newB B) ⟨h1, ?_⟩
  have hz : (s.heap.push o).objs.size = s.heap.objs.size + 1 := Heap.size_push ..
  show _ ∧ _
  rw [hz]
  have he : IsEnum ((s.heap.push o).push { cls := .type "enumerate", data := .fields #[.none, .bool false, .ref s.heap.objs.size, rawInt 0, .none, .none] }) (s.heap.objs.size + 1) s.heap.objs.size 0 .none := by
    have := Heap.get?_push_size (s.heap.push o) (o := { cls := .type "enumerate", data := .fields #[.none, .bool false, .ref s.heap.objs.size, rawInt 0, .none, .none] }) rfl
    rw [hz] at this
    exact this
  exact ⟨⟨_, he, rfl⟩, h _ he (Heap.get?_push_of_some _ (Heap.get?_push_size _ B.free)) fun b o x => Heap.get?_push_of_some _ (Heap.get?_push_of_some _ x)⟩
/-- the tuple at a, each item in a new pair -/
def IteT (K : PySem.W.Frag) (a : Addr) : It :=
  ⟨fun i H => ∃ (xs : List V) (x : V), SqT K H a xs ∧ xs[i]? = some x, fun i H v H' => ∃ T x, v = .ref T ∧ H T = none ∧ H' = upd H T (.tup [.int (i : Nat), x]) ∧ ∀ xs, SqT K H a xs → xs[i]? = some x, fun i H => ∃ xs : List V, SqT K H a xs ∧ xs.length = i⟩
theorem turn_enumT {P : Program} {w : World} {K : PySem.W.Frag} {elts : List Expr} {kk : Nat} {tpos : Pos} (a e it : Addr) (nai : a ≠ it) (nae : a ≠ e) :
    Turn P w K (.Tuple elts kk tpos) (IteT K a) [e, it] e (fun i h => (∃ old, IsEnum h e it ((i : Nat) : Int) old) ∧ h.IsTupleIter it a i ∧ e ≠ it) where
  mem := by simp
  obj := fun i h st b hb => by
    obtain ⟨⟨old, he⟩, ⟨o, ho, hc, hd⟩, _⟩ := st
    have e' : b = e ∨ b = it := by simpa using hb
    rcases e' with z | z
    · rw [z]; exact ⟨_, he, fun v q => nomatch q⟩
    · rw [z]; exact ⟨o, ho, fun v q => by rw [hd] at q; cases q⟩
  keep := fun i h h' st k => let ⟨⟨old, he⟩, hi, hne⟩ := st; ⟨⟨old, k e (by simp) _ he⟩, hi.at fun o q => k it (by simp) o q, hne⟩
  item := by
    intro X hP hw hK hc i pins s σ H E I hf st hg
    subst hP hw hK
    obtain ⟨⟨old, he⟩, hit, hne⟩ := st
    obtain ⟨xs, x, hq, hx⟩ := hg
    obtain ⟨its, rv, p, hz⟩ := I.tuple hq
    obtain ⟨u, hu, ru⟩ := rv.get hx
    have hel : e < s.heap.objs.size := Heap.lt_size he
    have hil : it < s.heap.objs.size := by obtain ⟨_, q, _⟩ := hit; exact Heap.lt_size q
    have hi : i < its.toArray.size := by
      have := (List.getElem?_eq_some_iff.mp hu).1
      simpa using this
    have nef : e ∉ [it, a] := by
      simp only [List.mem_cons, List.not_mem_nil, or_false, not_or]
      exact ⟨hne, fun z => nae z.symm⟩
    refine wpAny_pyNext_enum_itemD (Draws.tuple (A := X.A.in1) (by simp [I.ok.hd hc]) it a nai its.toArray) he ⟨hit, p⟩ hi hne nef fun x1 h' tk hP ho hs' hT hsz hk => ?_
    have hx1 : x1 = u := by
      have q2 : its.toArray[i]? = some u := by simpa using hu
      rw [q2] at hP
      exact (Option.some.inj hP).symm
    subst hx1
    refine ⟨_, rfl, wpAny_letOwnedTupleGo_enum (s := { s with heap := h', toks := tk + 1 }) ho fun h'' he' sb => ?_⟩
    have hT2 : h''.get? s.heap.objs.size = some { cls := .type "tuple", data := .seq #[.int i tk, x1] } := (sb.2 _ (Nat.ne_of_gt hel)).trans hT
    have new : ObjOk X.prog X.w (upd H s.heap.objs.size (.tup [.int (i : Nat), x])) h'' s.heap.objs.size (.tup [.int (i : Nat), x]) :=
      ⟨by show 2 ≤ sizeLine; decide, [.int i tk, x1], .cons ⟨_, rfl⟩ (.cons ru .nil), ⟨_, hT2, rfl, _, rfl⟩⟩
    have I1 : Inv X pins σ (upd H s.heap.objs.size (.tup [.int (i : Nat), x])) { s with heap := h'', toks := tk + 1 } :=
      I.turnedNew (ch := [e, it]) (fun b ob hb q => (sb.2 b (fun z => hb (by simp [z]))).trans (hk b ob (fun z => hb (by simp [z])) (fun z => hb (by simp [z])) q)) hf (Nat.le_refl _) new
    refine ⟨.ref s.heap.objs.size, _, I1, rfl, ⟨_, x, rfl, I.hok.fresh (Nat.le_refl _), rfl, fun ys hy => by rw [I.tuple_inj hy hq]; exact hx⟩, ⟨⟨x1, ?_⟩, hs'.1.at fun o q => (sb.2 it (Ne.symm hne)).trans q, hne⟩, fun b hb => ?_⟩
    · have e1 : ((i + 1 : Nat) : Int) = (i : Int) + 1 := by omega
      rw [e1]; exact he'
    · have hb' : b < s.heap.objs.size := by
        have e' : b = e ∨ b = it := by simpa using hb
        rcases e' with z | z
        · rw [z]; exact hel
        · rw [z]; exact hil
      rw [upd_ne (Nat.ne_of_lt hb')]
      exact (hf b hb).1
  done := by
    intro X hP hw hK hc i pins s σ H E I hf st hg
    subst hP hw hK
    obtain ⟨⟨old, he⟩, hit, hne⟩ := st
    obtain ⟨xs, hq, hx⟩ := hg
    obtain ⟨its, rv, p, hz⟩ := I.tuple hq
    obtain ⟨f0, f1, f2, f3, f4, f5⟩ := hf it (by simp)
    have hl := rv.length
    have hi : i = its.toArray.size := by
      rw [← hx, hl]
      simp
    have D := Draws.tuple (prog := X.prog) (w := X.w) (A := X.A.in1) (by simp [I.ok.hd hc]) it a nai its.toArray
    rw [hi] at hit he
    exact wpAny_pyNext_enum_endD D he ⟨hit, p⟩ fun h' eb => ⟨rfl, I.turned (t' := s.toks) (fun b o hb q => eb b o hb q) f0 f1 f3 f4 f5⟩
  self := fun A i s Q E st h => let ⟨⟨_, he⟩, _⟩ := st; wpAny_pyIter_enum he h
def iEnumT (K : PySem.W.Frag) (ta : TA) : TI := fun σ H R => ta σ H fun vs H1 => ∃ a xs, vs = [.ref a] ∧ SqT K H1 a xs ∧ R (IteT K a) H1
theorem pi_enumT {X : Cx} {e : Expr} {ta : TA} {p pos tpos : Pos} {elts : List Expr} {kk : Nat} (hg : Gl X "enumerate") (hm : X.mg "enumerate" = none) (ha : PA X [e] ta) (hs : starEach [e] X.env = [(false, eval e X.env)] := by rfl) :
    PI X (.Tuple elts kk tpos) (.Call (.Name "enumerate" p) [e] [] pos) (iEnumT X.K ta) := by
  refine ⟨fun pins s σ H R I h => ?_⟩
  refine Call_ (ld_blt I hg hm boot_enumerate (PyProof.Rows.callWith_type1 (thn (ha.run pos pins s σ H _ I h) fun us s1 ⟨vs, H1, I1, r1, q1⟩ => ?_) hs rfl))
  obtain ⟨a, xs, ex, hq, q⟩ := q1
  subst ex
  cases r1 with
  | cons r rr =>
    cases rr
    cases r
    obtain ⟨its, rv, p', hz⟩ := I1.tuple hq
    have hal : a < s1.heap.objs.size := by obtain ⟨o, ho, _⟩ := p'; exact Heap.lt_size ho
    refine call_enumB (begins_tuple a its.toArray) p' fun h' he hit hk => wpAny_pyIter_enum he ?_
    have I2 : Inv X pins σ H1 { s1 with heap := h' } := I1.kept (t' := s1.toks) hk
    refine ⟨s1.heap.objs.size + 1, [s1.heap.objs.size + 1, s1.heap.objs.size], _, _, H1, rfl, I2, turn_enumT a (s1.heap.objs.size + 1) s1.heap.objs.size (Nat.ne_of_lt hal) (Nat.ne_of_lt (Nat.lt_succ_of_lt hal)), ⟨⟨.none, he⟩, ⟨_, hit, rfl, rfl⟩, Nat.succ_ne_self _⟩, fun b hb => ?_, q⟩
    have e' : b = s1.heap.objs.size + 1 ∨ b = s1.heap.objs.size := by simpa using hb
    have hle : s1.heap.objs.size ≤ b := by
      rcases e' with z | z
      · rw [z]; exact Nat.le_add_right _ _
      · rw [z]; exact Nat.le_refl _
    exact I1.fpOk hle (I1.hok.fresh hle)
section
variable {c : Cf}
def enumD : Nat → List D → List D
  | _, [] => []
  | i, d :: ds => .tup [.int (i : Int), d] :: enumD (i + 1) ds
theorem enumD_at : ∀ (ds : List D) (k i : Nat), (enumD k ds)[i]? = (ds[i]?).map fun d => D.tup [.int ((k + i : Nat) : Int), d]
  | [], k, i => by simp [enumD]
  | d :: ds, k, 0 => by simp [enumD]
  | d :: ds, k, i + 1 => by
    rw [enumD, List.getElem?_cons_succ, List.getElem?_cons_succ, enumD_at ds (k + 1) i]
    rw [show k + 1 + i = k + (i + 1) by omega]
theorem enumD_len : ∀ (ds : List D) (k : Nat), (enumD k ds).length = ds.length
  | [], _ => rfl
  | d :: ds, k => by rw [enumD, List.length_cons, List.length_cons, enumD_len]
def lEnumT (f : EDn) : LDn := fun Γ hs => (f Γ hs).bind fun r => (tupOf r.1).map fun ds => (enumD 0 ds, r.2)
theorem si_enumT {te : TE} {f : EDn} (h : Snd c te f) : SndI c (iEnumT c.K (tCons te tNil)) (lEnumT f) := by
  intro B hs Γ tmp σ H D0 items hs' e R q
  unfold lEnumT at e
  obtain ⟨⟨x, hs1⟩, e1, e⟩ := Option.bind_eq_some_iff.mp e
  obtain ⟨ds, hx, e⟩ := Option.map_eq_some_iff.mp e
  injection e with e2 e3
  have e2 : enumD 0 ds = items := e2
  have e3 : hs1 = hs' := e3
  have hx : tupOf x = some ds := hx
  subst e2 e3
  refine h B hs Γ tmp σ H D0 _ _ e1 _ fun v H1 a1 D1 k1 => ?_
  obtain ⟨F1, ow1, d1⟩ := id D1
  obtain ⟨a, xs, rfl, ha, hxs⟩ := (d1.tmp (x, v) (by simp)).seqT hx
  refine ⟨a, xs, rfl, d1.sub.sqT ha, q _ _ [(x, .ref a)] a1 D1 k1 ?_⟩
  intro F H' sub nt hex
  obtain ⟨_, xs2, e4, ha2, hxs2⟩ := (hex (x, .ref a) (by simp)).seqT hx
  injection e4 with e4
  subst e4
  have sq : SqT c.K H' a xs2 := sub.sqT ha2
  refine ⟨fun i d hi => ?_, ⟨xs2, sq, by rw [hxs2.length, enumD_len]⟩⟩
  rw [enumD_at] at hi
  obtain ⟨d', hd', rfl⟩ := Option.map_eq_some_iff.mp hi
  obtain ⟨x, h1, h2⟩ := hxs2.get hd'
  refine ⟨⟨xs2, x, sq, h1⟩, fun y H2 hy => ?_⟩
  obtain ⟨T, z, rfl, hT, rfl, hy⟩ := hy
  have := hy xs2 sq
  rw [h1] at this; cases this
  have n2 := Nx.lay (c := c) (ad := none) (o := .tup [.int (i : Nat), x]) sub nt hT (by intro ps z; cases z)
  refine ⟨_, n2, .tup (.inl (.inl upd_same)) (.cons ?_ (.cons (h2.mono n2.fe) .nil))⟩
  rw [Nat.zero_add]
  exact .int _
def zipD : List D → List D → List D
  | d :: ds, e :: es => .tup [d, e] :: zipD ds es
  | _, _ => []
theorem zipD_at : ∀ (ds es : List D) (i : Nat) (x : D), (zipD ds es)[i]? = some x → ∃ d e, ds[i]? = some d ∧ es[i]? = some e ∧ x = .tup [d, e]
  | [], _, i, x, h => by simp [zipD] at h
  | _ :: _, [], i, x, h => by simp [zipD] at h
  | d :: ds, e :: es, 0, x, h => by simp [zipD] at h; exact ⟨d, e, rfl, rfl, h.symm⟩
  | d :: ds, e :: es, i + 1, x, h => by
    rw [zipD, List.getElem?_cons_succ] at h
    obtain ⟨d', e', h1, h2, h3⟩ := zipD_at ds es i x h
    exact ⟨d', e', by simpa using h1, by simpa using h2, h3⟩
theorem zipD_len : ∀ (ds es : List D), ds.length ≤ (zipD ds es).length ∨ es.length ≤ (zipD ds es).length
  | [], _ => .inl (Nat.zero_le _)
  | _ :: _, [] => .inr (Nat.zero_le _)
  | d :: ds, e :: es => by
    rw [zipD, List.length_cons, List.length_cons, List.length_cons]
    rcases zipD_len ds es with h | h
    · exact .inl (by omega)
    · exact .inr (by omega)
def lZipT (f1 f2 : EDn) : LDn := fun Γ hs => (f1 Γ hs).bind fun r1 => (f2 Γ r1.2).bind fun r2 => match r1.1, r2.1 with
  | .tup ds, .tup es => some (zipD ds es, r2.2)
  | _, _ => none
theorem si_zipT {ta tb : TE} {f1 f2 : EDn} (h1 : Snd c ta f1) (h2 : Snd c tb f2) : SndI c (RZ.iZipA c.K (tCons ta (tCons tb tNil))) (lZipT f1 f2) := by
  intro B hs Γ tmp σ H D0 items hs' e R q
  unfold lZipT at e
  obtain ⟨⟨x, hs1⟩, e1, e⟩ := Option.bind_eq_some_iff.mp e
  obtain ⟨⟨y, hs2⟩, e2, e⟩ := Option.bind_eq_some_iff.mp e
  split at e <;> try (cases e; done)
  rename_i ds es hx hy
  have hx : x = .tup ds := hx
  have hy : y = .tup es := hy
  subst hx
  subst hy
  injection e with e
  injection e with e3 e4
  have e3 : zipD ds es = items := e3
  have e4 : hs2 = hs' := e4
  subst e3 e4
  refine h1 B hs Γ tmp σ H D0 _ _ e1 _ fun v H1 a1 D1 k1 => ?_
  refine h2 B hs1 Γ _ σ H1 D1 _ _ e2 _ fun w H2 a2 D2 k2 => ?_
  obtain ⟨F1, ow1, d2⟩ := id D2
  have fv := d2.tmp (.tup ds, v) (by simp)
  have fw := d2.tmp (.tup es, w) (by simp)
  rw [a1.ad] at k2
  cases fv with
  | @tup a xs _ ha hxs =>
  cases fw with
  | @tup b ys _ hb hys =>
  refine ⟨a, b, xs, ys, rfl, .inr ⟨d2.sub.sqT ha, d2.sub.sqT hb, q _ _ [(.tup es, .ref b), (.tup ds, .ref a)] (a1.trans a2) D2 (k1.trans k2) ?_⟩⟩
  intro F H' sub nt hex
  have fv := hex (.tup ds, .ref a) (by simp)
  have fw := hex (.tup es, .ref b) (by simp)
  cases fv with
  | @tup _ xs2 _ ha2 hxs2 =>
  cases fw with
  | @tup _ ys2 _ hb2 hys2 =>
  have sq1 : SqT c.K H' a xs2 := sub.sqT ha2
  have sq2 : SqT c.K H' b ys2 := sub.sqT hb2
  refine ⟨fun i d hi => ?_, ⟨xs2, ys2, sq1, sq2, by rw [hxs2.length, hys2.length]; exact zipD_len ds es⟩⟩
  obtain ⟨d', e', h3, h4, rfl⟩ := zipD_at _ _ _ _ hi
  obtain ⟨x, g1, g2⟩ := hxs2.get h3
  obtain ⟨y, g3, g4⟩ := hys2.get h4
  refine ⟨⟨xs2, ys2, x, y, sq1, sq2, g1, g3⟩, fun z H2 hy => ?_⟩
  obtain ⟨T, z1, z2, rfl, hT, rfl, hy1, hy2⟩ := hy
  have := hy1 xs2 sq1
  rw [g1] at this; cases this
  have := hy2 ys2 sq2
  rw [g3] at this; cases this
  have n2 := Nx.lay (c := c) (ad := none) (o := .tup [x, y]) sub nt hT (by intro ps z; cases z)
  exact ⟨_, n2, .tup (.inl (.inl upd_same)) (.cons (g2.mono n2.fe) (.cons (g4.mono n2.fe) .nil))⟩
end
end Dl
/-! Dict comprehensions with tuple keys. -/
namespace Dl
open PySem PySem.Spec PyProof.Rows L2
section
variable {c : Cf} {X : Cx}
/-- a comprehension's store -/
theorem comp_putN (k : CfOk c X) (hu : X.A.units + 64 < cLine) {pins : List (Addr × Obj)} {σ : L2.St} {H : Hp} {s : Shared} {E : Value → Shared → Prop} {D : Addr} {y z : V} {u r : Value} {Nx : Hp → Prop} {Q : Unit → Shared → Prop}
    (I : Inv X pins σ H s) (ry : RelV y u) (rz : RelV z r) (h : rPutN c (.ref D) y z H Nx) (q : ∀ s' H', Inv X pins σ H' s' → Nx H' → Q () s') : wpAny (model X.prog X.w) X.A (dictSet D u r) Q E s := by
  obtain ⟨p, es, kd, a, e1, rfl, hp, ⟨F, kvs, sub, fa, fk⟩, hk, hz, nx⟩ := h
  injection e1 with e1
  subst e1
  have ri : u = Value.ref a := ry
  subst ri
  obtain ⟨xs, rr, dd, z1, z2⟩ := dN_at k I sub (.inl hp) fk
  have hl := rr.length
  refine wpAny_dictSet_heap (hsz := by rw [← hl]; exact small_sz (by omega)) (by show X.A.units + 8 < cLine; omega) (FD.keyIs k I sub fa hk) dd fun h' hm hs => ?_
  obtain ⟨o', de, ep, g1, _⟩ := id hm
  exact q _ _ (I.write (o := dN c D _) (by rw [hp]; unfold dN; trivial) (.inl rfl) (fun b ob hb e => (hs.2 b hb).trans e) ⟨o', g1⟩ (dN_new k (Nat.le_trans (put_len (nk := toKey kd) (a := a) (v := z) es) (small_sz (by omega))) z1 (rr.put rz) hm)) nx
/-- {k: v for target in iter if ..}, tuple keys: D the new dict -/
def tDcN (c : Cf) (wi : TI) (g : TG) (tt : TT) (tk tv : TE) (vs : List Nat) : TE := fun σ H Q => wi σ H fun J H1 => ∀ D, H1 D = none → ∃ W : Nat → Nat → Hp → Prop, (∃ m, W 0 m (upd H1 D (dN c D []))) ∧ ∀ i m H, W i m H →
  (J.stop i H ∧ Q (.ref D) H) ∨ (J.go i H ∧ ∃ Nx : Hp → Prop, (∀ H', Nx H' → ∃ m', m' < m ∧ W (i + 1) m' H') ∧
    ∀ x H', J.yld i H x H' → g x (wipe σ vs) H' fun σ2 H2 => wipe σ2 vs = wipe σ vs ∧ tt σ2 H2 fun b H3 => if b = true then tk σ2 H3 fun y H4 => tv σ2 H4 fun z H5 => rPutN c (.ref D) y z H5 Nx else Nx H3)
variable {kx vx tg iter : Expr} {ifs : List Expr} {scope : Scope} {own : List (Str × Nat)} {pos pos' : Pos} {wi : TI} {g : TG} {tt : TT} {tk tv : TE}
abbrev BlkP (X : Cx) (scope : Scope) (R : Cx → Prop) : Prop := ∀ (s : Shared) (H : Hp) (C : Addr) (cl : List (Str × Addr)) (fp : List Addr), R (X.blk s H scope (compEnvC scope cl C X.env) fp)
theorem dcN_run {pins : List (Addr × Obj)} {s : Shared} {σ : L2.St} {H : Hp} {Q : VK} {use : Option (Value → Sem Unit)} {Qf : Value → Shared → Prop} (k : CfOk c X) (hu : X.A.units + 64 < cLine)
    (calm : X.calm = true) (nd : X.N.Nodup) (I : Inv X pins σ H s) (hi : PI X tg iter wi) (ok : BlkOk X.N X.env.scope scope own)
    (hg : BlkP X scope fun Y => PG Y tg g) (ht : BlkP X scope fun Y => PTs Y ifs tt) (hk : BlkP X scope fun Y => PE Y kx tk) (hv : BlkP X scope fun Y => PE Y vx tv) (hs : ∀ x, foldedSetIterable iter X.env x = pure x)
    (h : tDcN c wi g tt tk tv (own.map (·.2)) σ H Q)
    (fin : ∀ D C s' m H', Inv X pins σ H' s' → Q (.ref D) H' → s'.heap.Ns C m → FpOk X pins H' C → compPost (model X.prog X.w) X.A X.xe use Qf (.ref D) C (.ok .next) s') :
    wpAny (model X.prog X.w) X.A (comprehension (.DictComp kx vx [⟨tg, iter, ifs, 0⟩] scope pos) scope X.env pos' newDict false (eval iter X.env) use) Qf X.xe s := by
  have cells : ∀ y ∈ scope.names, y.2 = .free → ∃ cc, X.env.cells.lookup y.1 = some cc := by
    intro y hy e
    exact (ok.free y hy e).elim (fun z => I.ok.has _ (.inl z)) fun z => I.ok.has _ (.inr z)
  have uniq : ∀ y ∈ scope.names, y.2 = .local → scope.names.lookup y.1 = some .local := by
    intro y hy e
    rw [ok.uniq y hy, e]
  refine wpAny_comprehension_free (use := use) rfl hs (closure_ok cells) ok.kind uniq (thn (hi.run pins s σ H _ I h) fun xv s1 hx => thn hx fun itv s2 step => ?_)
  obtain ⟨it, fp, tn, J, H2, rfl, I2, T, st2, fpok, q⟩ := step
  refine wpAny_newObj_type (newEnv_comp ?_)
  generalize eD : s2.heap.objs.size = D
  have freeD : H2 D = none := I2.hok.fresh (Nat.le_of_eq eD)
  obtain ⟨W, ⟨m0, w0⟩, turn⟩ := q D freeD
  generalize es3 : ({ s2 with heap := s2.heap.push { cls := .type "dict", data := .dict #[] } } : Shared) = s3
  have hp3 : s3.heap = s2.heap.push { cls := .type "dict", data := .dict #[] } := by
    rw [← es3]
  have I3 : Inv X pins σ (upd H2 D (dN c D [])) s3 := by
    subst es3
    refine I2.laid (t' := s2.toks) (fun b o e => Heap.get?_push_of_some _ e) (Nat.le_of_eq eD) ?_
    subst eD
    exact dN_new k (Nat.zero_le _) (beq_eq_false_iff_ne.mpr (Nat.ne_of_gt I2.big)) .nil (Heap.DictOfH.new s2.heap)
  have low : ∀ b ∈ fp, b < s2.heap.objs.size := by
    intro b hb
    obtain ⟨o, e, _⟩ := T.obj _ _ st2 b hb
    exact Heap.lt_size e
  have f3 : ∀ b ∈ fp, FpOk X pins (upd H2 D (dN c D [])) b ∧ b < s3.heap.objs.size := by
    intro b hb
    have l := low b hb
    have nb : b ≠ D := by
      subst eD
      exact Nat.ne_of_lt l
    exact ⟨⟨by rw [upd_ne nb]; exact (fpok b hb).1, (fpok b hb).2⟩, by rw [hp3, Heap.size_push]; exact Nat.lt_succ_of_lt l⟩
  have st3 : tn 0 s3.heap := T.keep _ _ _ st2 fun b _ o e => by
    rw [hp3]
    exact Heap.get?_push_of_some _ e
  have I4 := block_start I3 ok nd f3
  have Pg := hg s3 (upd H2 D (dN c D [])) s3.heap.objs.size (cellsFrom (s3.heap.objs.size + 1) scope.names (cloFrom X.env.cells scope.names [])) fp
  have Pt := ht s3 (upd H2 D (dN c D [])) s3.heap.objs.size (cellsFrom (s3.heap.objs.size + 1) scope.names (cloFrom X.env.cells scope.names [])) fp
  have Pk := hk s3 (upd H2 D (dN c D [])) s3.heap.objs.size (cellsFrom (s3.heap.objs.size + 1) scope.names (cloFrom X.env.cells scope.names [])) fp
  have Pv := hv s3 (upd H2 D (dN c D [])) s3.heap.objs.size (cellsFrom (s3.heap.objs.size + 1) scope.names (cloFrom X.env.cells scope.names [])) fp
  show codeAny _ _ (.compStart (.DictComp kx vx [⟨tg, iter, ifs, 0⟩] scope pos) 0 (.ref it) (.ref D) (compEnvC scope (cellsFrom (s3.heap.objs.size + 1) scope.names (cloFrom X.env.cells scope.names [])) s3.heap.objs.size X.env)) (compPost (model X.prog X.w) X.A X.xe use Qf (.ref D) s3.heap.objs.size) { s3 with heap := pushCells (s3.heap.push { cls := .type "dict", data := .dict #[] }) scope.names }
  have nf : ∀ b ∈ fp, (upd H2 D (dN c D [])) b = none := fun b hb => (f3 b hb).1.1
  generalize eY : compEnvC scope (cellsFrom (s3.heap.objs.size + 1) scope.names (cloFrom X.env.cells scope.names [])) s3.heap.objs.size X.env = Y at I4 Pg Pt Pk Pv ⊢
  have locY : Y.locals = s3.heap.objs.size := by
    subst eY
    rfl
  generalize eH3 : upd H2 D (dN c D []) = H3 at I3 I4 Pg Pt Pk Pv w0 nf f3
  generalize es4 : ({ s3 with heap := pushCells (s3.heap.push { cls := .type "dict", data := .dict #[] }) scope.names } : Shared) = s4 at I4 ⊢
  have st4 : tn 0 s4.heap := T.keep _ _ _ st3 fun b _ o e => by
    subst es4
    exact pushCells_keeps _ _ _ _ (Heap.get?_push_of_some _ e)
  have still : ∀ {σ' : L2.St} {H' : Hp} {s' : Shared}, Inv (X.blk s3 H3 scope Y fp) [] σ' H' s' → (∀ b ∈ fp, H' b = none) → ∀ b ∈ fp, FpOk (X.blk s3 H3 scope Y fp) [] H' b := by
    intro σ' H' s' J' hn b hb
    refine ⟨hn b hb, (J'.ok.exf b hb).1, J'.ok.exfs b hb, .inl hb, fun x cc e => (J'.ok.exf b hb).2 x cc e, fun p hp => ?_⟩
    have hp : p ∈ ([] : List (Addr × Obj)) ++ [] := hp
    simp at hp
  have loop : codeAny (model X.prog X.w) X.A (.compLoop (.DictComp kx vx [⟨tg, iter, ifs, 0⟩] scope pos) 0 (.ref it) (.ref D) Y) (compPost (model X.prog X.w) X.A X.xe use Qf (.ref D) s3.heap.objs.size) s4 := by
    refine compLoop_anyD (fun n s' => ∃ i H', Inv (X.blk s3 H3 scope Y fp) [] (wipe σ (own.map (·.2))) H' s' ∧ tn i s'.heap ∧ (∀ b ∈ fp, H' b = none) ∧ W i n H') ?_ m0 ⟨0, H3, I4, st4, nf, w0⟩
    rintro n s5 ⟨i, H5, I5, st5, n5, w5⟩
    rcases turn i n H5 w5 with ⟨stop, qq⟩ | ⟨go, Nx, hNx, stp⟩
    · refine thnF (T.done (X.blk s3 H3 scope Y fp) rfl rfl rfl calm i [] s5 _ H5 (fun _ _ => False) I5 (still I5 n5) st5 stop) fun r s6 ⟨hr, I6⟩ => ?_
      subst hr
      have I7 : Inv X pins σ H5 s6 := I3.call' (ch := fp) I6.os I6.base I6.hok I6.bare fun b hb =>
        let z := (f3 b hb).1.2
        ⟨z.2.2.1, z.1, z.2.2.2.1, z.2.2.2.2⟩
      have nC : H5 s3.heap.objs.size = none := by
        have z : H5 Y.locals = none := I6.free
        rwa [locY] at z
      obtain ⟨m, hn, _⟩ := I6.loc
      have hn : s6.heap.Ns Y.locals m := hn
      rw [locY] at hn
      exact fin D s3.heap.objs.size s6 m H5 I7 qq hn (I3.fpOk (Nat.le_refl _) nC)
    · refine thnF (T.item (X.blk s3 H3 scope Y fp) rfl rfl rfl calm i [] s5 _ H5 (fun _ _ => False) I5 (still I5 n5) st5 go) fun r s6 ⟨u, hr, h6⟩ => ?_
      subst hr
      refine thnF h6 fun _ s7 ⟨x, H7, I7, r7, y7, st7, n7⟩ => ?_
      have I7' := I7.pinned (still I7 n7) (T.obj _ _ st7)
      refine thnF (Pg.run _ s7 _ H7 x u _ I7' r7 (stp x H7 y7)) fun _ s8 ⟨σ8, H8, I8, hw8, q8⟩ => ?_
      refine thnF (Pt.run _ s8 σ8 H8 _ I8 q8) fun b s9 ⟨H9, I9, q9⟩ => ?_
      have back : ∀ {s' : Shared} {H' : Hp}, Inv (X.blk s3 H3 scope Y fp) ([] ++ pinsAt fp s7.heap) σ8 H' s' → Nx H' → ∃ m, m < n ∧ ∃ i H', Inv (X.blk s3 H3 scope Y fp) [] (wipe σ (own.map (·.2))) H' s' ∧ tn i s'.heap ∧ (∀ b ∈ fp, H' b = none) ∧ W i m H' := by
        intro s' H' J' nx
        obtain ⟨m', hm, w'⟩ := hNx H' nx
        have pin' : ∀ b ∈ fp, ∀ o, s7.heap.get? b = some o → s'.heap.get? b = some o ∧ H' b = none := by
          intro b hb o e
          have z := J'.pin (b, o) (List.mem_append_right _ (List.mem_append_right _ (mem_pinsAt hb e)))
          exact ⟨z.1, z.2.1⟩
        have hl : (wipe σ (own.map (·.2))).length = σ8.length := by
          rw [← hw8, wipe_length]
        refine ⟨m', hm, i + 1, H', (J'.unpinned (pins := [])).weak hl (fun j v e => (wipe_some (by rw [← hw8] at e; exact e)).1), T.keep _ _ _ st7 fun b hb o e => (pin' b hb o e).1, fun b hb => ?_, w'⟩
        obtain ⟨o, e, _⟩ := T.obj _ _ st7 b hb
        exact (pin' b hb o e).2
      cases b with
      | false =>
        simp only [Bool.false_eq_true, if_false] at q9 ⊢
        exact back I9 q9
      | true =>
        simp only [if_true] at q9 ⊢
        refine thnF (Pk.run _ s9 σ8 H9 _ I9 q9) fun z s10 ⟨yk, H10, I10, r10, q10⟩ => ?_
        refine thnF (Pv.run _ s10 σ8 H10 _ I10 q10) fun z2 s11 ⟨yv, H11, I11, r11, pt⟩ => ?_
        exact comp_putN (X := X.blk s3 H3 scope Y fp) ⟨k.P, k.w, k.K⟩ hu I11 r10 r11 pt fun s12 H12 I12 nx => back I12 nx
  exact codeAny_compStart_dict loop (T.self X.A 0 _ _ _ st4 loop)
theorem pe_dcN (k : CfOk c X) (hu : X.A.units + 64 < cLine) (calm : X.calm = true) (nd : X.N.Nodup) (hi : PI X tg iter wi) (ok : BlkOk X.N X.env.scope scope own)
    (hg : BlkP X scope fun Y => PG Y tg g) (ht : BlkP X scope fun Y => PTs Y ifs tt) (hk : BlkP X scope fun Y => PE Y kx tk) (hv : BlkP X scope fun Y => PE Y vx tv) (hs : ∀ x, foldedSetIterable iter X.env x = pure x := by intro _; rfl) :
    PE X (.DictComp kx vx [⟨tg, iter, ifs, 0⟩] scope pos) (tDcN c wi g tt tk tv (own.map (·.2))) := by
  refine ⟨fun pins s σ H Q I h => ?_⟩
  rw [arm_eval_DictComp]
  refine dcN_run k hu calm nd I hi ok hg ht hk hv hs h fun D C s' m H' I' q hn f => ⟨m, hn, fun h'' sb => ?_⟩
  obtain ⟨f0, f1, f2, f3, f4, f5⟩ := f
  exact ⟨.ref D, H', I'.turned (t' := s'.toks) (fun b o hb e => (sb.2 b hb).trans e) f0 f1 f3 f4 f5, rfl, q⟩
end
/-! ### what it computes -/
def putOk (acc : List (D × D)) (k v : D) : Option (List (D × D)) := match k with
  | .tup ks => if kOk 8 (.tup ks) = true then some (putD acc (.tup ks) v) else none
  | _ => none
theorem putOk_inv {acc out : List (D × D)} {k v : D} (h : putOk acc k v = some out) : ∃ ks, k = .tup ks ∧ kOk 8 (.tup ks) = true ∧ out = putD acc (.tup ks) v := by
  unfold putOk at h
  split at h <;> try (cases h; done)
  split at h <;> cases h
  rename_i hk
  exact ⟨_, rfl, hk, rfl⟩
def dcD (gd : GDn) (cond : BDn) (ke ve : EDn) (Γ : Env) : List D → List (D × D) → HS → Option (List (D × D) × HS)
  | [], acc, hs => some (acc, hs)
  | x :: xs, acc, hs => (gd x Γ).bind fun Γ' => (cond Γ' hs).bind fun rb => if rb.1 = true then
      (ke Γ' rb.2).bind fun rk => (ve Γ' rk.2).bind fun rv => (putOk acc rk.1 rv.1).bind fun acc' => dcD gd cond ke ve Γ xs acc' rv.2
    else dcD gd cond ke ve Γ xs acc rb.2
def rDcN (src : LDn) (js : List Nat) (gd : GDn) (cond : BDn) (ke ve : EDn) (Γ : Env) (hs : HS) : Option (List (D × D) × HS) := if deadAll Γ js = true then
    (src Γ hs).bind fun r => if r.1.length < 100000 then dcD gd cond ke ve Γ r.1 [] r.2 else none
  else none
def eDcN (src : LDn) (js : List Nat) (gd : GDn) (cond : BDn) (ke ve : EDn) : EDn := fun Γ hs => (rDcN src js gd cond ke ve Γ hs).map fun q => (.dic true q.1, q.2)
theorem putD_len (kvs : List (D × D)) (k d : D) : (putD kvs k d).length ≤ kvs.length + 1 := by
  unfold putD
  split <;> simp
section
variable {c : Cf} {te tk tv : TE} {tt : TT} {ke ve : EDn} {cond : BDn}
theorem dcN_raw {wi : TI} {src : LDn} {tg : TG} {js : List Nat} {gd : GDn} (hi : SndI c wi src) (hg : SndG c tg js gd) (ht : SndT c tt cond) (hk : Snd c tk ke) (hv : Snd c tv ve) (B : Ba) (hs : HS) (Γ : Env) (tmp : List (D × V)) (σ : L2.St) (H : Hp) (D0 : DS c B hs Γ tmp σ H) (total : List (D × D)) (hs2 : HS)
    (e : rDcN src js gd cond ke ve Γ hs = some (total, hs2)) (Q : VK) (q : ∀ p H', HSm hs hs2 → DS c (B.push p (.dic false total)) hs2 Γ tmp σ H' → H p = none → Kp (some hs.ad) H H' → Q (.ref p) H') : tDcN c wi tg tt tk tv js σ H Q := by
  unfold rDcN at e
  split at e <;> try (cases e; done)
  rename_i hd
  obtain ⟨⟨items, hs1⟩, e1, e2⟩ := Option.bind_eq_some_iff.mp e
  by_cases hz : items.length < 100000
  rotate_left
  · simp only [if_neg hz] at e2
    cases e2
  simp only [if_pos hz] at e2
  refine hi B hs Γ tmp σ H D0 items hs1 e1 _ fun J H1 ex a1 D1 k1 hY => ?_
  intro p hp
  have hp0 : H p = none := k1.free hp
  refine ⟨fun i m H' => ∃ hsi acc, i ≤ items.length ∧ m = items.length - i ∧ HSm hs hsi ∧ dcD gd cond ke ve Γ (items.drop i) acc hsi = some (total, hs2) ∧ acc.length ≤ i ∧ DS c (B.push p (.dic false acc)) hsi Γ (ex ++ tmp) σ H' ∧ Kp (some hs.ad) H H',
    ⟨items.length, hs1, [], Nat.zero_le _, by simp, a1, by simpa using e2, by simp, ?_, k1.mut hp0⟩, ?_⟩
  · obtain ⟨F, ow, d1⟩ := D1
    exact ⟨F, ow, d1.hide hp (.dic upd_same .nil)⟩
  rintro i m Hi ⟨hsi, acc, hle, rfl, ai, ei, hacc, Di, ki⟩
  obtain ⟨Fi, owi, di⟩ := id Di
  obtain ⟨yg, ys⟩ := hY Fi Hi di.sub di.nt (fun p hp => di.tmp p (List.mem_append_left _ hp))
  by_cases hlt : i < items.length
  · have hx : items[i]? = some items[i] := List.getElem?_eq_getElem hlt
    obtain ⟨go, yl⟩ := yg i _ hx
    rw [List.drop_eq_getElem_cons hlt] at ei
    refine .inr ⟨go, fun H' => ∃ m', m' < items.length - i ∧ ∃ hsi acc, i + 1 ≤ items.length ∧ m' = items.length - (i + 1) ∧ HSm hs hsi ∧ dcD gd cond ke ve Γ (items.drop (i + 1)) acc hsi = some (total, hs2) ∧ acc.length ≤ i + 1 ∧ DS c (B.push p (.dic false acc)) hsi Γ (ex ++ tmp) σ H' ∧ Kp (some hs.ad) H H', fun H' h => h, fun x H' hx' => ?_⟩
    obtain ⟨F', n, fx⟩ := yl x H' hx'
    have lw : (wipe σ js).length = σ.length := wipe_length σ js
    have D2 : DS c (B.push p (.dic false acc)) hsi Γ ((items[i], x) :: (ex ++ tmp)) (wipe σ js) H' := ds_wipe hd ⟨F', owi, (di.step n).push fx⟩ lw (fun k hk => wipe_out js σ k hk)
    unfold dcD at ei
    obtain ⟨Γ2, e3, ei⟩ := Option.bind_eq_some_iff.mp ei
    obtain ⟨⟨b, hs3⟩, e4, ei⟩ := Option.bind_eq_some_iff.mp ei
    refine hg _ hsi Γ _ (wipe σ js) H' x items[i] D2 Γ2 e3 _ fun σ2 l2 o2 g2 gl2 D3 => ?_
    have ew : wipe σ2 js = wipe σ js := (wipe_eq l2 o2).trans (wipe_eq lw (fun k hk => wipe_out js σ k hk))
    refine ⟨ew, ?_⟩
    have oσ : ∀ k, k ∉ js → σ2[k]? = σ[k]? := fun k hk => (o2 k hk).trans (wipe_out js σ k hk)
    have kH' : Kp (some hs.ad) H H' := ki.trans n.he.mono
    refine ht _ hsi Γ2 _ σ2 H' D3 b hs3 e4 _ fun H3 a3 D4 k3 => ?_
    rw [ai.ad] at k3
    cases b with
    | false =>
      rw [if_neg Bool.false_ne_true]
      simp only [if_neg Bool.false_ne_true] at ei
      exact ⟨_, by omega, hs3, acc, by omega, rfl, ai.trans a3, ei, by omega, (ds_swap D4 hd (l2.trans lw) oσ gl2 g2).pop, kH'.trans k3⟩
    | true =>
      rw [if_pos rfl]
      simp only [if_true] at ei
      obtain ⟨⟨yk, hs4⟩, e5, ei⟩ := Option.bind_eq_some_iff.mp ei
      obtain ⟨⟨yv, hs5⟩, e6, ei⟩ := Option.bind_eq_some_iff.mp ei
      obtain ⟨acc', e7, ei⟩ := Option.bind_eq_some_iff.mp ei
      obtain ⟨ks, hyk, hok, hac⟩ := putOk_inv e7
      have hyk : yk = .tup ks := hyk
      subst hyk
      subst hac
      refine hk _ hs3 Γ2 _ σ2 H3 D4 _ hs4 e5 _ fun v H4 a4 D5 k4 => ?_
      refine hv _ hs4 Γ2 _ σ2 H4 D5 yv hs5 e6 _ fun v2 H5 a5 D6 k5 => ?_
      rw [(ai.trans a3).ad] at k4
      rw [((ai.trans a3).trans a4).ad] at k5
      obtain ⟨F5, ow5, d5⟩ := D6
      obtain ⟨f1, f2, f3, f4⟩ := d5.hid (p, .dic false acc) List.mem_cons_self
      generalize hpq : (p, D.dic false acc).1 = p1 at f1
      have hpq : p = p1 := hpq
      subst hpq
      cases f1 with
      | @dic _ _ es _ hxs fxs =>
      have fk := d5.tmp (.tup ks, v) (by simp)
      have fv := d5.tmp (yv, v2) (by simp)
      cases id fk with
      | @tup a ws _ _ _ =>
      refine ⟨p, es, .tup ks, a, rfl, rfl, hxs, ⟨F5, acc, d5.sub, fk, fxs⟩, hok, ?_, ?_⟩
      · rw [fxs.length]; omega
      · have d6 := d5.hmut (y := .dic false (putD acc (.tup ks) yv)) (o := dN c p _) (by intro ps z; unfold dN at z; cases z) (.dic upd_same (fxs.put hok fk fv))
        have hpl := putD_len acc (.tup ks) yv
        refine ⟨_, by omega, hs5, putD acc (.tup ks) yv, by omega, rfl, ((ai.trans a3).trans a4).trans a5, ei, by omega, ?_, (((kH'.trans k3).trans k4).trans k5).mut hp0⟩
        exact (ds_swap ⟨F5, ow5, d6⟩ hd (l2.trans lw) oσ gl2 g2).pop.pop.pop
  · have ee : i = items.length := by omega
    subst ee
    rw [List.drop_length] at ei
    unfold dcD at ei
    injection ei with ei
    injection ei with e7 e8
    subst e7
    subst e8
    refine .inl ⟨ys, ?_⟩
    exact q p Hi ai (Di.drop (fun p hp => List.mem_append_right _ hp)) hp0 ki
theorem snd_dcN {wi : TI} {src : LDn} {tg : TG} {js : List Nat} {gd : GDn} (hi : SndI c wi src) (hg : SndG c tg js gd) (ht : SndT c tt cond) (hk : Snd c tk ke) (hv : Snd c tv ve) : Snd c (tFrzE c (tDcN c wi tg tt tk tv js)) (eDcN src js gd cond ke ve) := by
  intro B hs Γ tmp σ H D0 d hs' e Q q
  unfold eDcN at e
  obtain ⟨⟨total, hs2⟩, e1, e⟩ := Option.map_eq_some_iff.mp e
  cases e
  refine dcN_raw hi hg ht hk hv B hs Γ tmp σ H D0 total hs2 e1 _ fun p H' ai Di hp0 ki => ?_
  obtain ⟨Fi, owi, di⟩ := Di
  obtain ⟨f1, f2, f3, f4⟩ := di.hid (p, .dic false total) List.mem_cons_self
  generalize hpq : (p, D.dic false total).1 = p1 at f1
  have hpq : p = p1 := hpq
  subst hpq
  cases f1 with
  | @dic _ _ es _ hxs fxs =>
  refine ⟨p, es, rfl, hxs, fun od => ?_⟩
  exact q _ _ ai ⟨_, owi, (di.unhideZ hxs fxs).drop (by intro p hp; rcases List.mem_cons.mp hp with h | h <;> simp [h])⟩ (ki.mut hp0)
/-- return {.. for ..}: the dict is the caller's -/
def sRetDc (src : LDn) (js : List Nat) (gd : GDn) (cond : BDn) (ke ve : EDn) : SDn := fun Γ hs => (rDcN src js gd cond ke ve Γ hs).map fun q => (.retO (.dic false q.1), q.2)
theorem DSF.unhideO {B : Ba} {hs : HS} {Γ : Env} {tmp : List (D × V)} {σ : L2.St} {H F : Hp} {ow : Nat → Addr} {p : Addr} {y : D} (d : DSF c (B.push p y) hs Γ tmp σ H F ow) : DSF c B hs [.own y] [] [some (.ref p)] H F (fun _ => p) := by
  obtain ⟨f1, f2, f3, f4⟩ := d.hid (p, y) List.mem_cons_self
  have hnd : ((p, y) :: B.hd |>.map (·.1)).Nodup := d.hnd
  rw [List.map_cons, List.nodup_cons] at hnd
  have one : ∀ i, isOwn [.own y] i → i = 0 := fun i ⟨x, h⟩ => by
    cases i with
    | zero => rfl
    | succ i => simp at h
  refine ⟨d.sub, d.nt, d.ex0, d.new, d.old, d.hF, d.hH, d.tabs, rfl, fun i s h => ?_, fun i j h1 h2 _ => by rw [one i h1, one j h2], fun q hq => by simp at hq, fun q hq => ?_, hnd.2⟩
  · cases i with
    | zero => cases h; exact ⟨_, rfl, f1, f2, f3⟩
    | succ i => simp at h
  · obtain ⟨a1, a2, a3, a4⟩ := d.hid q (List.mem_cons_of_mem _ hq)
    exact ⟨a1, a2, a3, fun i _ z => hnd.1 (List.mem_map.mpr ⟨q, hq, z.symm⟩)⟩
theorem ss_retDc {W : WX'} {wi : TI} {src : LDn} {tg : TG} {js : List Nat} {gd : GDn} (hi : SndI c wi src) (hg : SndG c tg js gd) (ht : SndT c tt cond) (hk : Snd c tk ke) (hv : Snd c tv ve) : SndS c W (tRet (tDcN c wi tg tt tk tv js)) (sRetDc src js gd cond ke ve) := by
  intro B hs Γ tmp σ H D0 r hs' e E p
  unfold sRetDc at e
  obtain ⟨⟨total, hs2⟩, e1, e⟩ := Option.map_eq_some_iff.mp e
  cases e
  refine dcN_raw hi hg ht hk hv B hs Γ tmp σ H D0 total hs2 e1 _ fun a H' ai Di _ _ => ?_
  obtain ⟨Fi, owi, di⟩ := Di
  exact p ai (.ref a) H' ⟨Fi, _, di.unhideO⟩
end
end Dl
/-! Plain tuples, dict(pairs), clear, != of told things. -/
namespace Dl
open PySem PySem.Spec PyProof.Rows L2
section
variable {c : Cf} {X : Cx}
/-- tuple(xs), and it is known to be plain -/
def dTupleP : List D → Option D
  | [.lst ds] => some (.ptup ds)
  | _ => none
theorem call_tupleP (k : CfOk c X) : CallR X (.type "tuple") (rDs c dTupleP) := by
  intro pins s σ H xs us Q I r h
  obtain ⟨F, ds, d, sub, nt, fs, e, q⟩ := h
  unfold dTupleP at e
  split at e <;> try (cases e; done)
  cases e
  cases fs with
  | cons f1 fs =>
  cases fs
  cases f1 with
  | @lst p ys _ h1 g1 =>
  rw [Vals.ref1 r]
  obtain ⟨its, r', pl, hz⟩ := I.list (show SqL X.K H p ys from .inl (.inl (sub _ _ h1)))
  have hlen := r'.length
  refine call_tuple_list pl.isList (fun h' kp => ?_) (by simp only [List.size_toArray] <;> omega)
  have I1 : Inv X pins σ H { s with heap := h' } := I.kept (t' := s.toks) kp
  have hn : H h'.objs.size = none := I1.hok.fresh (Nat.le_refl _)
  have n2 := Nx.lay (c := c) (ad := none) (o := .frz { cls := .type "tuple", data := .seq its.toArray } (.tup ys)) sub nt hn (by intro ps z; cases z)
  refine ⟨.ref h'.objs.size, _, I1.laid (t' := s.toks) (fun b o e => Heap.get?_push_of_some _ e) (Nat.le_refl _) (o := .frz { cls := .type "tuple", data := .seq its.toArray } (.tup ys)) ⟨Heap.get?_push_size _ rfl, hz, its, r', IsTup.new _ _⟩, rfl, q _ _ _ n2 (.ptup upd_same rfl (g1.mono n2.fe))⟩
/-! ### dict(pairs) -/
def pairOf : D → Option (D × D)
  | .tup [.tup ks, v] => if kOk 8 (.tup ks) = true then some (.tup ks, v) else none
  | _ => none
def dDict : List D → Option D
  | [.ptup ds] => if ds.length < 100000 then (ds.mapM pairOf).map fun ps => .dic true (ps.foldl (fun acc p => putD acc p.1 p.2) []) else none
  | _ => none
structure Row where
  T : Addr
  d : D
  b : Addr
  x : V
  u : Value
def foldR (rs : List Row) (es : List (NestedKey × Addr × V)) : List (NestedKey × Addr × V) :=
  rs.foldl (fun es r => if es.any (fun x => decide (x.1 = toKey r.d)) then es.map (fun x => if x.1 = toKey r.d then (x.1, x.2.1, r.x) else x) else es ++ [(toKey r.d, r.b, r.x)]) es
theorem rows_pairs {F H : Hp} {pins : List (Addr × Obj)} {σ : L2.St} {s : Shared} (k : CfOk c X) (I : Inv X pins σ H s) (sub : Ex F H) : ∀ {ds : List D} {ps : List (D × D)} {xs : List V} {its : List Value}, ds.mapM pairOf = some ps → FDs c F xs ds → Vals xs its →
    ∃ rs : List Row, its = rs.map (fun r => Value.ref r.T) ∧ ps.map (·.1) = rs.map (·.d) ∧ rs.length = ps.length ∧
      (∀ r ∈ rs, s.heap.IsTuple r.T #[.ref r.b, r.u] ∧ RelV r.x r.u ∧ kOk 8 r.d = true ∧ FD c F (.ref r.b) r.d) ∧
      ∀ {es : List (NestedKey × Addr × V)} {acc : List (D × D)}, FDk c F es acc → FDk c F (foldR rs es) (ps.foldl (fun acc p => putD acc p.1 p.2) acc) := by
  intro ds
  induction ds with
  | nil =>
    intro ps xs its e f r
    simp at e
    subst e
    cases f
    cases r
    exact ⟨[], rfl, rfl, rfl, fun r hr => by simp at hr, fun h => h⟩
  | cons d ds ih =>
    intro ps xs its e f r
    rw [List.mapM_cons] at e
    obtain ⟨p, e1, e⟩ := Option.bind_eq_some_iff.mp e
    obtain ⟨ps', e2, e⟩ := Option.bind_eq_some_iff.mp e
    injection e with e
    subst e
    unfold pairOf at e1
    split at e1 <;> try (cases e1; done)
    rename_i ks v
    split at e1 <;> try (cases e1; done)
    rename_i hk
    injection e1 with e1
    subst e1
    cases f with
    | cons f1 f2 =>
    cases r with
    | cons r1 r2 =>
    obtain ⟨rs, g1, g2, g3, g4, g5⟩ := ih e2 f2 r2
    cases f1 with
    | @tup T ys _ h1 h2 =>
    cases h2 with
    | @cons y1 _ _ _ a1 h2 =>
    cases h2 with
    | @cons y2 _ _ _ a2 h2 =>
    cases h2
    rename_i uT _
    have r1 : uT = Value.ref T := r1
    subst r1
    rw [k.K] at h1
    obtain ⟨zs, rv, pl, _⟩ := I.tuple (sub.sqT h1)
    cases rv with
    | @cons _ u1 _ _ q1 rv =>
    cases rv with
    | @cons _ u2 _ _ q2 rv =>
    cases rv
    cases id a1 with
    | @tup b ws _ _ _ =>
    have q1 : u1 = Value.ref b := q1
    subst q1
    refine ⟨⟨T, .tup ks, b, y2, u2⟩ :: rs, by rw [List.map_cons, g1], by rw [List.map_cons, List.map_cons, g2], by rw [List.length_cons, List.length_cons, g3], fun r hr => ?_, fun h => ?_⟩
    · rcases List.mem_cons.mp hr with rfl | hr
      · exact ⟨pl, q2, hk, a1⟩
      · exact g4 r hr
    · exact g5 (h.put hk a1 a2)
theorem call_dictD (k : CfOk c X) (hc : X.calm = true) (hu : X.A.units + 70 < cLine) : CallR X (.type "dict") (rDs c dDict) := by
  intro pins s σ H xs us Q I r h
  obtain ⟨F, ds, d, sub, nt, fs, e, q⟩ := h
  unfold dDict at e
  split at e <;> try (cases e; done)
  rename_i ds
  split at e <;> try (cases e; done)
  rename_i hz
  obtain ⟨ps, e1, e⟩ := Option.map_eq_some_iff.mp e
  subst e
  cases fs with
  | cons f1 fs =>
  cases fs
  cases f1 with
  | @ptup p od ys _ h1 hdn g1 =>
  rw [Vals.ref1 r]
  have ok := I.hok p _ (sub _ _ h1)
  obtain ⟨hg, hlen, its, rv, o', ho', hcl, n, hdat⟩ := ok
  rw [hg] at ho'
  cases ho'
  obtain ⟨rs, g2, g3, g4, g5, g6⟩ := rows_pairs k I sub e1 g1 rv
  have lps : ps.length = ds.length := by
    have : ∀ {ds : List D} {ps : List (D × D)}, ds.mapM pairOf = some ps → ps.length = ds.length := by
      intro ds
      induction ds with
      | nil => intro ps h; simp at h; subst h; rfl
      | cons d ds ih =>
        intro ps h
        rw [List.mapM_cons] at h
        obtain ⟨p, e1, h⟩ := Option.bind_eq_some_iff.mp h
        obtain ⟨ps', e2, h⟩ := Option.bind_eq_some_iff.mp h
        injection h with h
        subst h
        rw [List.length_cons, List.length_cons, ih e2]
    exact this e1
  let ps' : List (Value × Value) := rs.map fun r => (Value.ref r.b, r.u)
  let psH : List (NestedKey × Addr × Value) := rs.map fun r => (toKey r.d, r.b, r.u)
  let Ts : Nat → Addr := fun j => ((rs.map (·.T))[j]?).getD 0
  have items : PairItems s.heap its.toArray Ts ps' := by
    refine ⟨by simp [ps', g2], fun j kk vv hj => ?_⟩
    have hj : (rs.map fun r => (Value.ref r.b, r.u))[j]? = some (kk, vv) := hj
    rw [List.getElem?_map] at hj
    obtain ⟨r, hr, e⟩ := Option.map_eq_some_iff.mp hj
    injection e with e3 e4
    subst e3 e4
    obtain ⟨t1, t2, t3, t4⟩ := g5 r (List.mem_of_getElem? hr)
    have hT : Ts j = r.T := by
      show ((rs.map (·.T))[j]?).getD 0 = _
      rw [List.getElem?_map, hr]
      rfl
    rw [hT]
    refine ⟨?_, .inl t1⟩
    rw [g2]
    simp [hr]
  have hl : psH.length = ps'.length := by simp [psH, ps']
  have have_ : PairsHaveH (nestedKind X.prog X.w) ps'.length (PairRel ps') psH := by
    refine ⟨hl, fun i key v hi => ?_⟩
    have hi : (rs.map fun r => (Value.ref r.b, r.u))[i]? = some (key, v) := hi
    rw [List.getElem?_map] at hi
    obtain ⟨r, hr, e⟩ := Option.map_eq_some_iff.mp hi
    injection e with e3 e4
    subst e3 e4
    refine ⟨toKey r.d, r.b, ?_, rfl⟩
    show (rs.map fun r => (toKey r.d, r.b, r.u))[i]? = _
    rw [List.getElem?_map, hr]
    rfl
  have stay : KeysStay (nestedKind X.prog X.w) s.heap s.heap.objs.size [] psH := by
    intro h' hk x hx
    obtain ⟨r, hr, rfl⟩ := List.mem_map.mp hx
    obtain ⟨t1, t2, t3, t4⟩ := g5 r hr
    have I' : Inv X pins σ H { s with heap := h' } := I.kept (t' := s.toks) fun b u e => hk b u (Nat.ne_of_lt (Heap.lt_size e)) (by simp) e
    exact FD.keyIs k I' sub t4 t3
  have hrs : rs.length < 100000 := by omega
  refine call_dict_pairsH (PairArg.tuple (prog := X.prog) (w := X.w) p its.toArray Ts ps') (I.ok.hd hc) (by show X.A.units + 1 + 1 + 8 < cLine; omega) ⟨⟨od, n, hg, hcl, hdn, hdat⟩, items⟩ have_ stay (by show (rs.map _).length ≤ _; rw [List.length_map]; exact small_sz (by omega)) fun h' tk hd' hk => ?_
  have ers : ∀ (rs : List Row), (∀ r ∈ rs, RelV r.x r.u) → ∀ {es : List (NestedKey × Addr × V)} {zs : List (NestedKey × Addr × Value)}, EsR es zs →
      EsR (foldR rs es) (storedAllH zs (rs.map fun r => (toKey r.d, r.b, r.u))) := by
    intro rs
    induction rs with
    | nil => intro _ es zs h; exact h
    | cons r rs ih =>
      intro hr es zs h
      exact ih (fun r' hr' => hr r' (by simp [hr'])) (h.put (nk := toKey r.d) (a := r.b) (hr r (by simp)))
  have fln : ∀ (rs : List Row) (es : List (NestedKey × Addr × V)), (foldR rs es).length ≤ es.length + rs.length := by
    intro rs
    induction rs with
    | nil => intro es; simp [foldR]
    | cons r rs ih =>
      intro es
      have := put_len (nk := toKey r.d) (a := r.b) (v := r.x) es
      have h2 := ih (if es.any (fun x => decide (x.1 = toKey r.d)) then es.map (fun x => if x.1 = toKey r.d then (x.1, x.2.1, r.x) else x) else es ++ [(toKey r.d, r.b, r.x)])
      unfold foldR at h2 ⊢
      rw [List.foldl_cons, List.length_cons]
      omega
  have E := ers rs (fun r hr => (g5 r hr).2.1) (.nil : EsR [] [])
  have hn : H s.heap.objs.size = none := I.hok.fresh (Nat.le_refl _)
  obtain ⟨o, de, ep, go, gx, gd, ge, gi, gn⟩ := id hd'
  have L := fln rs []
  simp only [List.length_nil] at L
  have G := g6 (.nil : FDk c F [] [])
  generalize foldR rs [] = es2 at E L G
  have okN := dN_new (H := upd H s.heap.objs.size (.frz o (dN c s.heap.objs.size es2))) k (small_sz (by omega)) (beq_eq_false_iff_ne.mpr (Nat.ne_of_gt I.big)) E hd'
  have n2 := Nx.lay (c := c) (ad := none) (o := .frz o (dN c s.heap.objs.size es2)) sub nt hn (by intro ps z; cases z)
  exact ⟨.ref s.heap.objs.size, _, I.laid (t' := tk) (o := .frz o (dN c s.heap.objs.size es2)) (fun b u e => hk b u (by simp) e) (Nat.le_refl _) ⟨go, okN⟩, rfl, q _ _ _ n2 (.dicT upd_same (G.mono n2.fe))⟩
end
end Dl
/-! d.clear(), != of told things. -/
namespace Dl
open PySem PySem.Spec PyProof.Rows L2
/-- d.clear() -/
def tClN (c : Cf) (te : TE) : TE := fun σ H Q => te σ H fun x H1 => ∃ p es, x = .ref p ∧ H1 p = some (dN c p es) ∧ (∃ F kvs, Ex F H1 ∧ FDk c F es kvs) ∧ Q .non (upd H1 p (dN c p []))
section
variable {c : Cf} {X : Cx} {W : WX'}
theorem pe_clN (k : CfOk c X) {o : Expr} {apos cpos : Pos} {to : TE} (ho : PE X o to) (hbase : attributeBase o "clear" X.env (eval o X.env) = eval o X.env := by rfl) (hline : (apos.endLine == cpos.line) = true := by rfl) : PE X (.Call (.Attribute o "clear" apos) [] [] cpos) (tClN c to) := by
  refine ⟨fun pins s σ H Q I h => ?_⟩
  refine wpAny_Call_method (T := "dict") (id := "dict.clear") hbase rfl hline PySem.F.plainAttrs_dict PySem.F.slot_dict_clear PySem.F.type_dict_clear (thn (ho.run pins s σ H _ I h) fun u s1 ⟨x, H1, I1, rx, p, es, ex, hp, ⟨F, kvs, sub, fk⟩, q⟩ => ?_)
  subst ex
  obtain rfl : u = Value.ref p := rx
  obtain ⟨t1, t2⟩ := IsN.at k I1 (x := .ref p) (u := Value.ref p) (show RelV (.ref p) (Value.ref p) from rfl) ⟨p, es, rfl, .inl hp⟩
  obtain ⟨xs, r, dd, z1, z2⟩ := dN_at k I1 sub (.inl hp) fk
  refine ⟨t1, t2, ?_⟩
  show wpAny _ _ (callWith cpos (.builtin "dict.clear") [.ref p] [] []) _ X.xe s1
  refine PySem.Calls.callWith_builtin rfl (PySem.evalArgs_none ?_)
  refine clear_keyed (hsz := by rw [pairsH_length, ← r.length]; exact z2) (knd := nestedKind X.prog X.w) ⟨xs, dd, rfl⟩ fun h' hm hs => ?_
  obtain ⟨ys, hd', hy⟩ := hm
  have : ys = [] := by
    cases ys with
    | nil => rfl
    | cons y ys => simp [pairsH] at hy
  subst this
  obtain ⟨o', de, ep, g1, _⟩ := id hd'
  exact ⟨.non, _, I1.write (t' := s1.toks) (o := dN c p []) (by rw [hp]; unfold dN; trivial) (.inl rfl) (fun b ob hb e => (hs.2 b hb).trans e) ⟨o', g1⟩ (dN_new k (Nat.zero_le _) z1 .nil hd'), rfl, q⟩
/-- slot i's own told thing: its dict is emptied -/
def sClr (i : Nat) : SDn := fun Γ hs => match Γ[i]? with
  | some (.own (.tup [.str z, .dic zb _])) => some (.nx (Γ.set i (.own (.tup [.str z, .dic zb []]))), hs)
  | _ => none
theorem ss_clr {i : Nat} : SndS c W (tDrop (tClN c (tOp (rIxT c.K) (tVar i) (tC (.int 1))))) (sClr i) := by
  intro B hs Γ tmp σ H ⟨F, ow, d⟩ r hs' e E p
  unfold sClr at e
  split at e <;> try (cases e; done)
  rename_i z zb kvs hi
  injection e with e
  injection e with e1 e2
  subst e1 e2
  obtain ⟨v, hv, o, _, _⟩ := d.slot i _ hi
  generalize hq : ow i = p1 at o
  cases o with
  | @told t _ _ _ es _ ht hp hx =>
  refine ⟨.ref t, hv, t, _, 1, .ref p1, rfl, rfl, .inl (.inl (d.sub _ _ ht)), rfl, p1, es, rfl, hp, ⟨F, kvs, d.sub, hx⟩, ?_⟩
  subst hq
  exact p (HSm.refl hs) _ _ ⟨F, ow, d.mut hi hv (by intro ps z; unfold dN at z; cases z) (.told ht upd_same .nil)⟩
end
/-! ### two dicts with the same entries -/
section
variable {prog : Program} {w : World} {A : Around} {E : Value → Shared → Prop} {s : Shared}
open PySem.SeqAt (EqIn)
theorem sameN {nm : String} {a b : Addr} {xa xb : List (NestedKey × Addr × Value)} {Q : Bool → Shared → Prop} (hu : A.units + 8 < cLine) (ha : (a == sysModules) = false) (hb : (b == sysModules) = false)
    (da : s.heap.DictOfH (nestedKind prog w) a xa) (db : s.heap.DictOfH (nestedKind prog w) b xb) (hl : xa.length = xb.length) (hit : ∀ (i : Nat) (x : NestedKey × Addr × Value), xa[i]? = some x → ∃ y : NestedKey × Addr × Value, xb[i]? = some y ∧ y.1 = x.1 ∧ EqIn prog w A s x.2.2 y.2.2 true) (h : Q true s) :
    wpAny (model prog w) A (Builtin.Dict.samePairs nm a b) Q E s := by
  obtain ⟨oa, es, ep, hoa, _, hda, hea, hka, hna⟩ := da
  obtain ⟨ob, fs, fp, hob, _, hdb, heb, hkb, hnb⟩ := db
  have la : es.size = xa.length := size_of_entries hea
  have lb : fs.size = xb.length := size_of_entries heb
  unfold Builtin.Dict.samePairs Builtin.Dict.showsAll
  simp only [ha, hb, Bool.false_eq_true, if_false]
  refine wpAny_bind (wpAny_pure (wpAny_bind (wpAny_pure ?_)))
  refine wpAny_bind (wpAny_dictEntries hoa hda ?_)
  try dsimp only
  refine wpAny_bind (wpAny_dictEntries hob hdb ?_)
  rw [if_neg (by rw [la, lb, hl]; simp)]
  refine wpAny_bind (wpAny_dictEpoch hoa hda ?_)
  refine wpAny_bind ?_
  rw [Std.Legacy.Range.forIn_eq_forIn_range']
  simp only [Std.Legacy.Range.size, Nat.sub_zero, Nat.add_sub_cancel, Nat.div_one]
  refine wpAny_forIn_list _ (fun rest q s' => s' = s ∧ q = (none, ()) ∧ ∀ x ∈ rest, x < es.size) _ ?_ ?_ _ _ ⟨rfl, rfl, fun x hx => ?_⟩
  · rintro x rest q s' ⟨rfl, rfl, hr⟩
    have hx : x < es.size := hr x (by simp)
    have hxa : x < xa.length := by omega
    have e1 : xa[x]? = some xa[x] := List.getElem?_eq_getElem hxa
    obtain ⟨y, hy, ke, heq⟩ := hit x _ e1
    have e2 := entry_at hea x
    rw [e1, Option.map_some] at e2
    refine wpAny_bind (wpAny_dictEntries hoa hda ?_)
    rw [e2]
    have hkey := hka _ (List.mem_of_getElem? e1)
    have none_ : ¬ ∀ (j : Nat) (p : Addr × Value), xb[j]? ≠ some (xa[x].1, p) := fun hno => hno x y.2 (by rw [hy, ← ke])
    refine wpAny_bind (wpAny_holding (wpAny_bind (wpAny_dictFind_heap (by show A.units + 8 < cLine; exact hu) hkey hob hdb heb hkb hnb (fun hno => absurd hno none_) fun j p hj => ?_)))
    refine wpAny_bind (wpAny_dictEntries hob hdb ?_)
    have e3 := entry_at heb j
    rw [hj, Option.map_some] at e3
    rw [e3]
    have hjx : (xa[x].1, p) = y := by
      have nd := hnb
      have hm1 : (xb.map (·.1))[j]? = some xa[x].1 := by rw [List.getElem?_map, hj]; rfl
      have hm2 : (xb.map (·.1))[x]? = some xa[x].1 := by rw [List.getElem?_map, hy]; exact congrArg some ke
      have hjl : j < (xb.map (·.1)).length := (List.getElem?_eq_some_iff.mp hm1).1
      have : j = x := (List.getElem?_inj hjl nd).mp (hm1.trans hm2.symm)
      subst this
      rw [hj] at hy
      exact Option.some.inj hy
    refine wpAny_holding (show wpAny _ _ (eqBool xa[x].2.2 p.2) _ _ _ from ?_)
    have hp : p.2 = y.2.2 := by rw [← hjx]
    rw [hp]
    refine heq _ _ ?_
    show wpAny _ _ (if (!true) = true then _ else _) _ _ _
    rw [if_neg (by decide)]
    refine wpAny_bind (wpAny_dictEpoch hoa hda ?_)
    rw [if_neg (by simp)]
    exact wpAny_pure ⟨rfl, rfl, fun x hx => hr x (by simp [hx])⟩
  · rintro q s' ⟨rfl, rfl, _⟩
    exact wpAny_pure h
  · rw [List.mem_range'_1] at hx
    omega
theorem eqN {a b : Addr} {xa xb : List (NestedKey × Addr × Value)} {Q : Value → Shared → Prop} (hu : A.units + 9 < cLine) (ha : (a == sysModules) = false) (hb : (b == sysModules) = false)
    (da : s.heap.DictOfH (nestedKind prog w) a xa) (db : s.heap.DictOfH (nestedKind prog w) b xb) (hl : xa.length = xb.length) (hit : ∀ (i : Nat) (x : NestedKey × Addr × Value), xa[i]? = some x → ∃ y : NestedKey × Addr × Value, xb[i]? = some y ∧ y.1 = x.1 ∧ EqIn prog w A.in1 s x.2.2 y.2.2 true) (h : Q (.bool true) s) :
    wpAny (model prog w) A (richCompare .Eq (.ref a) (.ref b)) Q E s := by
  refine wpAny_richCompare_same_room (op := .Eq) da.typeIs db.typeIs PySem.F.slot_dict_eq (wpAny_call_entry PySem.F.slot_dict_eq da.typeIs PySem.F.entry_dict_eq ?_ (PySem.F.args_dict_eq_2 _ _)) (by omega)
  show wpAny _ _ (Builtin.Dict.dictSlotArgs "__eq__" ⟨[.ref a, .ref b], []⟩ >>= _) _ _ s
  refine wpAny_bind ?_
  unfold Builtin.Dict.dictSlotArgs
  refine wpAny_bind (wpAny_notOrdered_dict da.typeIs ?_)
  show wpAny _ _ (pure (Value.ref a, Value.ref b)) _ _ s
  refine wpAny_pure ?_
  refine wpAny_bind (wpAny_isInstance (T := "dict") db.typeIs PySem.F.sub_dict_dict ?_)
  simp only [Bool.not_true, Bool.false_eq_true, if_false]
  refine wpAny_bind (wpAny_pure (wpAny_bind (wpAny_pure ?_)))
  refine wpAny_bind (sameN (by show A.units + 1 + 8 < cLine; omega) ha hb da db hl hit ?_)
  exact wpAny_pure ⟨_, rfl, (fun x => nomatch x), h⟩
end
end Dl
/-! != of two tuples with the same items, dicts among them. -/
namespace Dl
open PySem PySem.Spec PyProof.Rows L2
section
open AutoSeq1 (wpAny_loadPart')
open PySem.SeqAt (EqIn)
variable {prog : Program} {w : World}
theorem zip_mem {α β : Type} [Inhabited α] [Inhabited β] {xs : Array α} {ys : Array β} {p : α × β} (h : p ∈ xs.toList.zip ys.toList) : ∃ (j : Nat) (h1 : j < xs.size) (h2 : j < ys.size), p = (xs[j], ys[j]) := by
  obtain ⟨i, hi⟩ := List.getElem?_of_mem h
  obtain ⟨h1, h2⟩ := List.getElem?_zip_eq_some.mp hi
  obtain ⟨l1, e1⟩ := List.getElem?_eq_some_iff.mp h1
  obtain ⟨l2, e2⟩ := List.getElem?_eq_some_iff.mp h2
  refine ⟨i, by simpa using l1, by simpa using l2, ?_⟩
  apply Prod.ext
  · simpa using e1.symm
  · simpa using e2.symm
theorem tup_neN (l b : Addr) (xs ys : Array Value) (n m : Nat) (dd de : Option Addr) (sl sm : Array (Option Value)) (hsz : xs.size = ys.size) :
    MeetsIn prog w (Builtin.«tuple.__ne__» ⟨[.ref l, .ref b], []⟩)
      (fun A R s => s.heap.get? l = some { cls := .type "tuple", dict := dd, data := .seq xs n, slots := sl } ∧ s.heap.get? b = some { cls := .type "tuple", dict := de, data := .seq ys m, slots := sm } ∧
        (∀ p ∈ xs.toList.zip ys.toList, EqIn prog w A.in1 s p.1 p.2 true) ∧ R (.ok (.ret (.bool false))) s) :=
  .of_wp fun A R s h => by
    obtain ⟨hp, g, d, tk, os⟩ := s
    obtain ⟨hl, hb, he, h⟩ := h
    have f2 := AutoSeq1.sub_tuple_tuple
    wp_walk using wpAny_loadPart' hl, wpAny_loadPart' hb, wpAny_forIn_list _ (fun rest q s' => q.1 = none ∧ s' = ⟨hp, g, d, tk, os⟩ ∧ ∀ p ∈ rest, EqIn prog w A.in1 s' p.1 p.2 true) _
    case turn =>
      rintro ⟨y, x⟩ rest q s' ⟨hq, rfl, hr⟩
      refine wpAny_bind (hr (y, x) (by simp) _ _ ?_)
      wp_walk
      exact ⟨rfl, rfl, fun p hp => hr p (by simp [hp])⟩
    case fin =>
      rintro ⟨q1, q2⟩ s' ⟨hq, rfl, _⟩
      simp only at hq
      subst hq
      wp_walk
      exact ⟨_, rfl, by simpa [Builtin.Tuple.tupleCompareSizes, hsz] using h⟩
    case h => exact ⟨rfl, rfl, he⟩
theorem ne_tupsN {A : Around} {E : Value → Shared → Prop} {s : Shared} {l b : Addr} {xs ys : Array Value} {Q : Value → Shared → Prop} (hl : s.heap.IsTuple l xs) (hb : s.heap.IsTuple b ys) (hsz : xs.size = ys.size) (hu : A.units < cLine)
    (he : ∀ p ∈ xs.toList.zip ys.toList, EqIn prog w A.in1 s p.1 p.2 true) (h : Q (.bool false) s) : wpAny (model prog w) A (compareOp .NotEq (.ref l) (.ref b)) Q E s := by
  obtain ⟨⟨cls, dd, data, sl⟩, ho, hc, n, hd⟩ := id hl
  obtain ⟨⟨cls2, dd2, data2, sl2⟩, ho2, hc2, n2, hd2⟩ := id hb
  simp only at hc hd hc2 hd2
  subst hc hd hc2 hd2
  exact wpAny_richCompare_same_room (T := "tuple") (op := .NotEq) ⟨_, ho, rfl⟩ ⟨_, ho2, rfl⟩ PySem.F.slot_tuple_ne (call_meetsIn PySem.F.slot_tuple_ne ⟨_, ho, rfl⟩ PySem.F.entry_tuple_ne (PySem.F.args_tuple_ne_2 _ _) (tup_neN l b xs ys n n2 dd dd2 sl sl2 hsz)
    ⟨ho, ho2, he, show Value.bool false ≠ Value.notImplemented ∧ Q (.bool false) s from ⟨(fun x => nomatch x), h⟩⟩) hu
end
mutual
theorem pOk_plain : ∀ d : D, pOk d = true → (toPy d).plain = true
  | .non, _ => by rw [toPy]; rfl; all_goals (intros; simp_all)
  | .bl _, _ => by rw [toPy]; rfl
  | .int _, _ => by rw [toPy]; rfl
  | .str _, _ => by rw [toPy]; rfl
  | .tup ds, h => by
    rw [toPy, PyData.plain]
    exact pOks_plain ds (by simpa [pOk] using h)
  | .lst ds, h => by
    rw [toPy, PyData.plain]
    exact pOks_plain ds (by simpa [pOk] using h)
  | .ptup ds, h => by
    rw [toPy, PyData.plain]
    exact pOks_plain ds (by simpa [pOk] using h)
  | .ty _, h => by simp [pOk] at h
  | .cls _, h => by simp [pOk] at h
  | .hand _, h => by simp [pOk] at h
  | .dic _ _, h => by simp [pOk] at h
  | .obj _ _, h => by simp [pOk] at h
  | .lam _ _ _ _, h => by simp [pOk] at h
  | .setD _, h => by simp [pOk] at h
  | .pin _, h => by simp [pOk] at h
theorem pOks_plain : ∀ ds : List D, pOks ds = true → PyData.plainAll (toPys ds) = true
  | [], _ => by simp [toPys, PyData.plainAll]
  | d :: ds, h => by
    have h' : pOk d = true ∧ pOks ds = true := by simpa [pOks] using h
    rw [toPys, PyData.plainAll, pOk_plain d h'.1, pOks_plain ds h'.2]
    rfl
end
theorem eqv_self {d : D} (h : pOk d = true) : (toPy d).eqv (toPy d) = true := PySem.SeqAt.eqv_refl_plain _ (pOk_plain d h)
section
open Classical
variable {c : Cf} {X : Cx}
/-- two told things, the same -/
noncomputable def dNeTold : D → D → Option D
  | .tup [.str x, .dic _ ks], .tup [.str y, .dic _ ls] => if x = y ∧ ks = ls ∧ ok (.str x) = true ∧ ∀ p ∈ ks, ok p.2 = true then some (.bl false) else none
  | _, _ => none
theorem FDk.pairs {F : Hp} : ∀ {es fs : List (NestedKey × Addr × V)} {kvs : List (D × D)}, FDk c F es kvs → FDk c F fs kvs → ∀ (i : Nat) x, es[i]? = some x → ∃ y d, fs[i]? = some y ∧ y.1 = x.1 ∧ FD c F x.2.2 d ∧ FD c F y.2.2 d ∧ d ∈ kvs.map (·.2)
  | _, _, _, .nil, .nil, i, x, e => by simp at e
  | _, _, _, .cons (x := v) k1 k2 a b t, .cons (x := u) l1 l2 a' b' t', 0, x, e => by
    simp at e
    subst e
    exact ⟨_, _, rfl, by rw [← k2, ← l2], b, b', by simp⟩
  | _, _, _, .cons k1 k2 a b t, .cons l1 l2 a' b' t', i + 1, x, e => by
    obtain ⟨y, d, h1, h2, h3, h4, h5⟩ := FDk.pairs t t' i x (by simpa using e)
    exact ⟨y, d, by simpa using h1, h2, h3, h4, by simp only [List.map_cons, List.mem_cons]; exact .inr h5⟩
theorem esr_at {es : List (NestedKey × Addr × V)} {xs : List (NestedKey × Addr × Value)} (h : EsR es xs) : (∀ (i : Nat) x, xs[i]? = some x → ∃ e, es[i]? = some e ∧ e.1 = x.1 ∧ RelV e.2.2 x.2.2) ∧ ∀ (i : Nat) e, es[i]? = some e → ∃ x, xs[i]? = some x ∧ e.1 = x.1 ∧ RelV e.2.2 x.2.2 := by
  induction h with
  | nil => exact ⟨fun i x e => by simp at e, fun i x e => by simp at e⟩
  | cons r t ih =>
    refine ⟨fun i x e => ?_, fun i x e => ?_⟩
    · cases i with
      | zero => simp at e; subst e; exact ⟨_, rfl, r.1, r.2.2⟩
      | succ i => simpa using ih.1 i x (by simpa using e)
    · cases i with
      | zero => simp at e; subst e; exact ⟨_, rfl, r.1, r.2.2⟩
      | succ i => simpa using ih.2 i x (by simpa using e)
theorem op_neTold (k : CfOk c X) (hu : X.A.units + 80 < cLine) : OpR X (compareOp .NotEq) (rD c dNeTold) := by
  intro pins s σ H x y v u Q I rx ry h
  obtain ⟨F, d1, d2, d, sub, nt, f1, f2, e, q⟩ := h
  unfold dNeTold at e
  split at e <;> try (cases e; done)
  rename_i a z1 ks b z2 ls
  split at e <;> try (cases e; done)
  rename_i hz
  obtain ⟨rfl, rfl, hos, hok⟩ := hz
  injection e with e
  subst e
  cases f1 with
  | @tup p ys _ h1 g1 =>
  cases f2 with
  | @tup p' ys' _ h2 g2 =>
  cases g1 with
  | @cons y1 _ _ _ a1 g1 =>
  cases g1 with
  | @cons y2 _ _ _ a2 g1 =>
  cases g1
  cases g2 with
  | @cons w1 _ _ _ b1 g2 =>
  cases g2 with
  | @cons w2 _ _ _ b2 g2 =>
  cases g2
  cases a1
  cases b1
  obtain ⟨m, es, rfl, hm, fk⟩ := a2.dic_inv
  obtain ⟨m', es', rfl, hm', fk'⟩ := b2.dic_inv
  rw [k.K] at h1 h2
  have rx : v = Value.ref p := rx
  have ry : u = Value.ref p' := ry
  subst rx
  subst ry
  obtain ⟨its, rv, pl, _⟩ := I.tuple (sub.sqT h1)
  obtain ⟨its', rv', pl', _⟩ := I.tuple (sub.sqT h2)
  cases rv with
  | @cons _ u1 _ _ q1 rv =>
  cases rv with
  | @cons _ u2 _ _ q2 rv =>
  cases rv
  cases rv' with
  | @cons _ u1' _ _ q1' rv' =>
  cases rv' with
  | @cons _ u2' _ _ q2' rv' =>
  cases rv'
  have q2 : u2 = Value.ref m := q2
  have q2' : u2' = Value.ref m' := q2'
  subst q2
  subst q2'
  refine ne_tupsN pl pl' rfl (by omega) (fun r hr => ?_) ⟨.bl false, H, I, rfl, q _ H F (Nx.stay sub nt (Ex.refl H)) (.bl _)⟩
  have hr : r = (u1, u1') ∨ r = (Value.ref m, Value.ref m') := by simpa using hr
  rcases hr with rfl | rfl
  · have e1 : Dp X.K H (.str a) (.str a) := .str a
    obtain ⟨as, r1⟩ := Dp.reads I _ _ _ e1 q1
    obtain ⟨bs, r2⟩ := Dp.reads I _ _ _ e1 q1'
    have := PySem.W.keq_at (A := X.A) (da := .str a) (db := .str a) r1 r2 (ok_and hos).2 (ok_and hos).2 (by show X.A.units + 1 + 64 < cLine; omega)
    have e2 : PyData.eqv (.str a) (.str a) = true := PySem.SeqAt.eqv_refl_plain _ rfl
    rw [e2] at this
    exact this.inModel _ _
  · by_cases hmm : m = m'
    · subst hmm
      exact (SeqAt.EqAt.same _).inModel _ _
    · obtain ⟨xs, r1, dd1, z1, z2⟩ := dN_at k I sub (sub.rd hm) fk
      obtain ⟨xs', r2, dd2, z3, z4⟩ := dN_at k I sub (sub.rd hm') fk'
      refine SeqAt.EqIn.of_refs hmm fun E Q hq => eqN (by show X.A.units + 1 + 9 < cLine; omega) z1 z3 dd1 dd2 (by rw [← r1.length, ← r2.length, fk.length, fk'.length]) (fun i x hx => ?_) hq
      obtain ⟨e, he, k1, v1⟩ := (esr_at r1).1 i x hx
      obtain ⟨y, d, hy, k2, fe, fy, hd⟩ := fk.pairs fk' i e he
      obtain ⟨x', hx', k3, v3⟩ := (esr_at r2).2 i y hy
      refine ⟨x', hx', by rw [← k3, k2, k1], ?_⟩
      obtain ⟨pp, hpp, rfl⟩ := List.mem_map.mp hd
      have hk := hok pp hpp
      have d1 := fe.dp sub (ok_and hk).1
      have d2 := fy.dp sub (ok_and hk).1
      rw [k.K] at d1 d2
      obtain ⟨as, g1⟩ := Dp.reads I _ _ _ d1 v1
      obtain ⟨bs, g2⟩ := Dp.reads I _ _ _ d2 v3
      have := PySem.W.keq_at (A := X.A.in1) g1 g2 (ok_and hk).2 (ok_and hk).2 (by show X.A.units + 1 + 1 + 64 < cLine; omega)
      rw [eqv_self (ok_and hk).1] at this
      exact this.inModel _ _
end
end Dl
/-! tuple == dict, tuple == whole (the whole's own __eq__), whole != whole. -/
namespace Dl
open PySem PySem.Spec PyProof.Rows L2
section
open AutoSeq1 (wpAny_loadPart')
variable {prog : Program} {w : World} {A : Around} {E : Value → Shared → Prop} {s : Shared}
theorem tup_decl (l : Addr) (v : Value) (items : Array Value) (n : Nat) (dd : Option Addr) (sl : Array (Option Value)) :
    MeetsIn prog w (Builtin.«tuple.__eq__» ⟨[.ref l, v], []⟩)
      (fun A R s => s.heap.get? l = some { cls := .type "tuple", dict := dd, data := .seq items n, slots := sl } ∧ (∀ {E : Value → Shared → Prop} {Q : Bool → Shared → Prop}, Q false s → wpAny (model prog w) A.in1 (isInstance v (.type "tuple")) Q E s) ∧ R (.ok (.ret .notImplemented)) s) :=
  .of_wp fun A R s h => by
    obtain ⟨hp, g, d, tk, os⟩ := s
    obtain ⟨hl, hi, h⟩ := h
    wp_walk using wpAny_loadPart' hl, hi
    exact ⟨_, rfl, h⟩
theorem dict_decl {d t : Addr} {items : Array Value} {Q : Value → Shared → Prop} (hd : s.TypeIs (.ref d) "dict") (ht : s.heap.IsTuple t items) (h : Q .notImplemented s) : wpAny (model prog w) A (call (.builtin "dict.__eq__") [.ref d, .ref t]) Q E s := by
  refine wpAny_call_entry PySem.F.slot_dict_eq hd PySem.F.entry_dict_eq ?_ (PySem.F.args_dict_eq_2 _ _)
  show wpAny _ _ (Builtin.Dict.dictSlotArgs "__eq__" ⟨[.ref d, .ref t], []⟩ >>= _) _ _ s
  refine wpAny_bind ?_
  unfold Builtin.Dict.dictSlotArgs
  refine wpAny_bind (wpAny_notOrdered_dict hd ?_)
  show wpAny _ _ (pure (Value.ref d, Value.ref t)) _ _ s
  refine wpAny_pure ?_
  refine wpAny_bind (wpAny_isInstance (T := "tuple") (b := false) ht.typeIs PySem.F.sub_tuple_dict ?_)
  simp only [Bool.not_false, if_true]
  show wpAny _ _ (ret .notImplemented >>= _) _ _ s
  first
    | exact wpAny_bind (wpAny_pure (wpAny_pure ⟨_, rfl, h⟩))
    | exact wpAny_bind (wpAny_pure ⟨_, rfl, h⟩)
theorem rc_tup_dict {l d : Addr} {items : Array Value} {Q : Value → Shared → Prop} (hl : s.heap.IsTuple l items) (hd : s.TypeIs (.ref d) "dict") (hu : A.units < cLine) (h : Q (.bool false) s) : wpAny (model prog w) A (compareOp .Eq (.ref l) (.ref d)) Q E s := by
  obtain ⟨od, hod, hcd⟩ := id hd
  obtain ⟨⟨cls, dd, data, sl⟩, ho, hc, n, hdat⟩ := id hl
  simp only at hc hdat
  subst hc hdat
  have hne : l ≠ d := fun e => by
    subst e
    rw [ho] at hod
    cases hod
    exact absurd hcd (by simp)
  refine SeqAt.rc_eq_decline_or (k := false) ⟨_, ho, rfl⟩ hd (by decide) PySem.F.sub_dict_tuple PySem.F.slot_tuple_eq PySem.F.slot_dict_eq_refl
    (fun _ hq => call_meetsIn PySem.F.slot_tuple_eq ⟨_, ho, rfl⟩ PySem.F.entry_tuple_eq (PySem.F.args_tuple_eq_2 _ _) (tup_decl l (.ref d) items n dd sl) ⟨ho, fun q => wpAny_isInstance (T := "dict") (b := false) hd PySem.F.sub_dict_tuple q, hq⟩)
    (fun _ hq => dict_decl hd hl hq)
    (fun _ hq => SeqAt.wpAny_isSame_ref_other' hne ho hod (by rw [hcd]; simp) hq) (.inr hu) h
end
/-! ### the whole's own __eq__ -/
/-- what is known of the class's comparisons -/
structure EqK (K : PySem.W.Frag) (C f : Addr) : Prop where
  eq : PySem.W.findIn K (.ref C) "__eq__" = some (some (.ref f))
  fn : PySem.W.isFn K (.ref f) = true
  ne : PySem.W.findIn K (.ref C) "__ne__" = some (some (.builtin "object.__ne__"))
  mro : PySem.W.mroIn K C (.type "object") = some true
  tup : PySem.W.subIn K (.ref C) (.type "tuple") = some false
section
open PySem.W
variable {X : Cx} {CX : CXT} {C f : Addr} {fd : FuncData} {ps : List Str} {n : Nat} {sp : Sp} {E : XK} {pins : List (Addr × Obj)} {σ : L2.St} {H : Hp} {s : Shared} {A : Around}
theorem run_sub (F : FnOk X.prog X.w X.K X.mg X.base CX n f fd ps sp) (sb : Sub X n A) (hb : Binds X.K fd ps []) (hx : Passes CX X E) {us : List Value} {vs : List V} {Q : VK} (I : Inv X pins σ H s) (r : Vals vs us) (h : sp vs H Q E) :
    wpAny (model X.prog X.w) A (call (.ref f) us) (EP X pins σ Q) X.xe s := by
  have e0 : Env0 X.prog X.w X.K X.mg X.base A X.stack s H := by
    have e := I.env0
    exact ⟨by rw [sb.fr]; exact e.frames, e.mod, e.bs, e.bsz, e.funs, e.frf, e.hok, e.bare⟩
  have hl : us.length = ps.length := by
    rw [← r.length]
    exact F.len _ _ _ _ h
  have bd := hb s us I.kIn (by rw [List.append_nil]; exact hl)
  rw [List.append_nil] at bd
  refine wpAny_call (codeAny_mono (F.run A X.stack s H ⟨us, []⟩ us vs Q E sb.room e0 bd r h) fun z s' hq => ?_)
  cases z with
  | error e => exact hx pins σ H s e s' I hq
  | ok fl =>
    cases fl with
    | ret u => exact I.after hq
    | next => exact False.elim hq
    | brk => exact False.elim hq
    | cont => exact False.elim hq
theorem Vals2 (a b : Addr) : Vals [V.ref a, V.ref b] [Value.ref a, Value.ref b] := .cons (show RelV (.ref a) (Value.ref a) from rfl) (.cons (show RelV (.ref b) (Value.ref b) from rfl) .nil)
theorem ifBoundB {prog : Program} {w : World} {A : Around} {E : Value → Shared → Prop} {s : Shared} {K : Frag} {x C : Addr} {ox : Obj} {od : Option Obj} {name : Str} {id : String} {args : List Value} {Q : Option Value → Shared → Prop} (X : K.In s.heap) (I : InstAt s.heap x ox C od)
    (hs : findIn K (.ref C) name = some (some (.builtin id))) (hb : ∀ self, bindSpecial (.builtin id) self = pure (.builtin id, [self])) (h : wpAny (model prog w) A (call (.builtin id) (.ref x :: args)) (fun v => Q (some v)) E s) : wpAny (model prog w) A (callSpecialIfBound? (.ref x) name args) Q E s := by
  simp only [callSpecialIfBound?, bindSpecialIfBound?]
  refine wpAny_holding (wpAny_bind (wpAny_bind (wpAny_bind (I.type.here ((looks_findIn X hs).here ?_)))))
  refine wpAny_bind (wpAny_askSetting (wpAny_ite ?_))
  have fin : wpAny (model prog w) A (call (.builtin id) ([.ref x] ++ args) >>= fun v => pure (some v)) Q E s := wpAny_bind (wpAny_mono h (fun v s' z => wpAny_pure z) fun _ _ z => z)
  split
  · exact wpAny_bind ((Looks.of_pure (hb _)).here (wpAny_pure (by exact fin)))
  · exact wpAny_tryCatch (wpAny_bind ((Looks.of_pure (hb _)).here (wpAny_pure (by exact fin))))
def IsIns (C : Addr) (H : Hp) (a : Addr) : Prop := ∃ dx fs, H a = some (.ins C dx fs)
theorem IsIns.look (I : Inv X pins σ H s) {a : Addr} (h : IsIns C H a) : ∃ ox od, InstAt s.heap a ox C od := by
  obtain ⟨dx, fs, ha⟩ := h
  obtain ⟨mA, J, _⟩ := ins_get I.hok ha
  obtain ⟨od, J, _⟩ := J.look
  exact ⟨_, _, J⟩
/-- tuple == whole: the whole is asked -/
def rEqRev (K : PySem.W.Frag) (C : Addr) (sp : Sp) (E : XK) : R2 := fun x y H Q => ∃ t xs b, x = .ref t ∧ SqT K H t xs ∧ y = .ref b ∧ IsIns C H b ∧ sp [y, x] H (fun v H' => (∃ r, v = .bl r) ∧ Q v H') E
theorem op_eqRev (k : EqK X.K C f) (F : FnOk X.prog X.w X.K X.mg X.base CX n f fd ps sp) (hr : Room n X.A) (hb : Binds X.K fd ps []) (hx : Passes CX X E) : OpR X (compareOp .Eq) (rEqRev X.K C sp E) := by
  intro pins s σ H x y v u Q I rx ry h
  obtain ⟨t, xs, b, rfl, ht, rfl, hi, q⟩ := h
  cases rx
  cases ry
  obtain ⟨its, rv, pl, _⟩ := I.tuple ht
  obtain ⟨ox, od, J⟩ := hi.look I
  obtain ⟨⟨cls, dd, data, sl⟩, ho, hc, m, hdat⟩ := id pl
  simp only at hc hdat
  subst hc hdat
  have hu : X.A.units < cLine := by have := hr.un; omega
  show wpAny _ _ (richCompare .Eq (.ref t) (.ref b)) _ _ s
  unfold richCompare
  simp only [oneThing_ref]
  refine wpAny_holding (wpAny_bind (wpAny_cRoomFor hu ?_))
  refine wpAny_bind (wpAny_typeOf pl.typeIs (wpAny_bind (J.type.here ?_)))
  rw [if_pos (by simp)]
  refine wpAny_bind ((looks_subIn I.kIn k.tup).here ?_)
  simp only [Bool.false_eq_true, if_false]
  refine wpAny_bind (wpAny_tryCompare_declines (T := "tuple") (id := "tuple.__eq__") pl.typeIs PySem.F.slot_tuple_eq (call_meetsIn PySem.F.slot_tuple_eq ⟨_, ho, rfl⟩ PySem.F.entry_tuple_eq (PySem.F.args_tuple_eq_2 _ _) (tup_decl t (.ref b) its.toArray m dd sl)
    ⟨ho, fun q' => (show Looks _ _ (isInstance (.ref b) (.type "tuple")) false from J.type.andThen (looks_subIn I.kIn k.tup)).here q', rfl, ?_⟩))
  simp only [Bool.not_false, if_true]
  have back : wpAny (model X.prog X.w) X.A (tryCompare (.ref b) "__eq__" (.ref t)) (fun r s' => ∃ w, r = some w ∧ EP X pins σ Q w s') X.xe s := by
    unfold tryCompare
    refine wpAny_bind (ifBound_K I.kIn J k.eq k.fn (wpAny_mono (run_sub F ⟨hr, rfl⟩ hb hx I (Vals2 _ _) q) (fun w s' hw => ?_) fun _ _ e => e))
    obtain ⟨z, H', I', rz, ⟨r, ez⟩, qz⟩ := hw
    subst ez
    cases rz
    exact wpAny_pure ⟨_, rfl, .bl r, H', I', rfl, qz⟩
  refine wpAny_bind (wpAny_mono back (fun r s' hw => ?_) fun _ _ e => e)
  obtain ⟨w, rfl, hq⟩ := hw
  exact wpAny_pure hq
/-- whole != whole: not what its __eq__ says -/
def rNeOwn (C : Addr) (sp : Sp) (E : XK) : R2 := fun x y H Q => ∃ a b, x = .ref a ∧ y = .ref b ∧ IsIns C H a ∧ IsIns C H b ∧ sp [x, y] H (fun v H' => ∃ r, v = .bl r ∧ Q (.bl (!r)) H') E
theorem op_neOwn (k : EqK X.K C f) (F : FnOk X.prog X.w X.K X.mg X.base CX n f fd ps sp) (hr : Room (n + 1) X.A) (hb : Binds X.K fd ps []) (hx : Passes CX X E) : OpR X (compareOp .NotEq) (rNeOwn C sp E) := by
  intro pins s σ H x y v u Q I rx ry h
  obtain ⟨a, b, rfl, rfl, ha, hb', q⟩ := h
  cases rx
  cases ry
  obtain ⟨ox, od, J⟩ := ha.look I
  obtain ⟨oy, oe, J'⟩ := hb'.look I
  have hu : X.A.units + 200 < cLine := by have := hr.un; omega
  have inner : ∀ {Q' : PySem.Fin → Shared → Prop}, (∀ r s', EP X pins σ (fun v H' => v = .bl r ∧ Q (.bl (!r)) H') (.bool r) s' → Q' (.done (.ret (.bool (!r)))) s') → wpAny (model X.prog X.w) X.A.in1 (Builtin.«object.__ne__» ⟨[.ref a, .ref b], []⟩) Q' X.xe s := by
    intro Q' hq'
    unfold Builtin.«object.__ne__»
    refine wpAny_bind (m := slotArgs "__ne__" 1 _) (wpAny_pure ?_)
    refine wpAny_bind (m := cRoomFor _ _) (wpAny_cRoomFor (by show X.A.units + 1 < cLine; omega) ?_)
    refine wpAny_bind (m := callSpecialIfBound? (.ref a) (Str.ofString "__eq__") _) (ifBound_K I.kIn J k.eq k.fn (wpAny_mono (run_sub F (Sub.in1 ⟨hr, rfl⟩) hb hx I (Vals2 _ _) q) (fun w s' hw => ?_) fun _ _ e => e))
    obtain ⟨z, H', I', rz, r, ez, qz⟩ := hw
    subst ez
    cases rz
    refine wpAny_bind (m := truthy (.bool r)) (wpAny_truthy_bool ?_)
    exact wpAny_pure (hq' r s' ⟨.bl r, H', I', rfl, rfl, qz⟩)
  have one : wpAny (model X.prog X.w) X.A (tryCompare (.ref a) "__ne__" (.ref b)) (fun r s' => ∃ w, r = some w ∧ EP X pins σ Q w s') X.xe s := by
    unfold tryCompare
    refine wpAny_bind (ifBoundB I.kIn J k.ne PySem.F.slot_object_ne.bind ?_)
    refine wpAny_call (codeAny_call_builtin PySem.F.slot_object_ne.plain PySem.F.entry_object_ne (check_slot (i := "object.__ne__") (owner := "object") (n := "__ne__") (by decide +kernel) (by decide +kernel) (J.type.andThen (looks_mroIn I.kIn k.mro)) (PySem.F.args_object_ne_2 _ _) (inner fun r s' hw => ?_)))
    obtain ⟨z, H', I', rz, ez, qz⟩ := hw
    subst ez
    exact wpAny_pure ⟨_, rfl, .bl (!r), H', I', rfl, qz⟩
  show wpAny _ _ (richCompare .NotEq (.ref a) (.ref b)) _ _ s
  unfold richCompare
  simp only [oneThing_ref]
  refine wpAny_holding (wpAny_bind (wpAny_cRoomFor (by omega) ?_))
  refine wpAny_bind (J.type.here (wpAny_bind (J'.type.here ?_)))
  rw [if_neg (by simp)]
  refine wpAny_bind (wpAny_pure ?_)
  simp only [Bool.false_eq_true, if_false]
  refine wpAny_bind (wpAny_mono one (fun r s' hw => ?_) fun _ _ e => e)
  obtain ⟨w, rfl, hq⟩ := hw
  exact wpAny_pure hq
end
end Dl
/-! == with whatever, != of wholes, while, *=, places and counts in a list of bools. -/
namespace Dl
open PySem PySem.Spec PyProof.Rows L2
section
variable {c : Cf} {X : Cx} {W : WX'} {te ta tb ti : TE} {tt : TT} {f f1 f2 : EDn} {t u : TS} {g g1 g2 : SDn} {ft : BDn} {tas : TA} {l : LDn}
/-! ### == -/
def dEqX (a b : D) : Option D := match tupOf a, b with
  | some _, .dic _ _ => some (.bl false)
  | _, _ => dEq a b
theorem op_eqX (k : CfOk c X) (hu : X.A.units + 64 < cLine) : OpR X (compareOp .Eq) (rD c dEqX) := by
  intro pins s σ H x y v u Q I rx ry h
  obtain ⟨F, d1, d2, d, sub, nt, f1, f2, e, q⟩ := h
  unfold dEqX at e
  split at e
  · rename_i ds z kvs e1
    injection e with e
    subst e
    obtain ⟨a, xs, rfl, ha, _⟩ := f1.seqT e1
    obtain ⟨p, es, rfl, hp, _⟩ := f2.dic_inv
    have rx : v = Value.ref a := rx
    have ry : u = Value.ref p := ry
    subst rx ry
    rw [k.K] at ha
    obtain ⟨its, rv, pl, _⟩ := I.tuple (sub.sqT ha)
    obtain ⟨t1, _⟩ := IsN.at k I (x := .ref p) (u := Value.ref p) (show RelV (.ref p) (Value.ref p) from rfl) ⟨p, es, rfl, sub.rd hp⟩
    exact rc_tup_dict pl t1 (by omega) ⟨.bl false, H, I, rfl, q _ H F (Nx.stay sub nt (Ex.refl H)) (.bl _)⟩
  · exact op_eqDD k hu pins s σ H x y v u Q I rx ry ⟨F, _, _, d, sub, nt, f1, f2, e, q⟩
/-- G: the whole's own __eq__ -/
def asBl (r : D × HS) : Option (D × HS) := match r.1 with
  | .bl _ => some r
  | _ => none
def eqW (G : Fn) (d1 d2 : D) (hs : HS) : Option (D × HS) := match d1, d2 with
  | .tup ds, .obj a b => (G [.obj a b, .tup ds] hs).bind asBl
  | x, y => (dEqX x y).map fun d => (d, hs)
theorem eqW_inv {G : Fn} {d1 d2 d : D} {hs hs' : HS} (h : eqW G d1 d2 hs = some (d, hs')) : (∃ ds a b r, d1 = .tup ds ∧ d2 = .obj a b ∧ G [.obj a b, .tup ds] hs = some (.bl r, hs') ∧ d = .bl r) ∨ (dEqX d1 d2 = some d ∧ hs' = hs) := by
  unfold eqW at h
  split at h
  · obtain ⟨⟨d3, h3⟩, e3, h⟩ := Option.bind_eq_some_iff.mp h
    cases d3 <;> simp [asBl] at h
    obtain ⟨rfl, rfl⟩ := h
    exact .inl ⟨_, _, _, _, rfl, rfl, e3, rfl⟩
  · obtain ⟨d', e3, h⟩ := Option.map_eq_some_iff.mp h
    cases h
    exact .inr ⟨e3, rfl⟩
def eEqW (G : Fn) (f1 f2 : EDn) : EDn := fun Γ hs => (f1 Γ hs).bind fun r1 => (f2 Γ r1.2).bind fun r2 => eqW G r1.1 r2.1 r2.2
def rEqW (c : Cf) (G : Fn) (E : XK) : R2 := fun x y H Q => rD c dEqX x y H Q ∨ rEqRev c.K c.C (spD c G) E x y H Q
theorem op_eqW {CX : CXT} {G : Fn} {fa : Addr} {fd : FuncData} {ps : List Str} {n : Nat} {E : XK} (k : CfOk c X) (hu : X.A.units + 64 < cLine) (q : EqK X.K c.C fa) (F : FnOk X.prog X.w X.K X.mg X.base CX n fa fd ps (spD c G)) (hr : Room n X.A) (hb : Binds X.K fd ps []) (hx : Passes CX X E) : OpR X (compareOp .Eq) (rEqW c G E) := by
  unfold rEqW
  rw [k.K]
  exact OpR.or (op_eqX k hu) (op_eqRev q F hr hb hx)
theorem snd_eqW {G : Fn} {E : XK} (ha : Snd c ta f1) (hb : Snd c tb f2) : Snd c (tOp (rEqW c G E) ta tb) (eEqW G f1 f2) := by
  intro B hs Γ tmp σ H D0 d hs' e Q q
  unfold eEqW at e
  obtain ⟨⟨d1, h1⟩, e1, e⟩ := Option.bind_eq_some_iff.mp e
  obtain ⟨⟨d2, h2⟩, e2, e⟩ := Option.bind_eq_some_iff.mp e
  refine ha B hs Γ tmp σ H D0 d1 h1 e1 _ fun v1 H1 a1 D1 k1 => ?_
  refine hb B h1 Γ _ σ H1 D1 d2 h2 e2 _ fun v2 H2 a2 D2 k2 => ?_
  rw [a1.ad] at k2
  obtain ⟨F, ow, D2⟩ := D2
  have fv1 : FD c F v1 d1 := D2.tmp (d1, v1) (by simp)
  have fv2 : FD c F v2 d2 := D2.tmp (d2, v2) (by simp)
  rcases eqW_inv e with ⟨ds, a, b, r, rfl, rfl, e3, rfl⟩ | ⟨e3, rfl⟩
  · refine .inr ?_
    cases id fv1 with
    | @tup at_ xs _ ht hxs =>
    cases id fv2 with
    | @obj b' dx xx yy _ _ hb' _ _ =>
    refine ⟨at_, xs, b', rfl, D2.sub.sqT ht, rfl, ⟨dx, _, D2.sub _ _ hb'⟩, [_, _], h2, .bl r, hs', F, e3, D2.sub, D2.nt, D2.hF, D2.hH, D2.tabs, .cons fv2 (.cons fv1 .nil), fun v H' F' a3 n hf hh fv => ⟨?_, ?_⟩⟩
    · cases fv
      exact ⟨r, rfl⟩
    · have n2 := n.he
      rw [(a1.trans a2).ad] at n2
      exact q v H' ((a1.trans a2).trans a3) ⟨F', ow, ((D2.call n a3.ad hf hh).push fv).drop (by intro p hp; simp at hp ⊢; rcases hp with h | h <;> simp [h])⟩ (k1.trans (k2.trans n2))
  · refine .inl ⟨F, d1, d2, d, D2.sub, D2.nt, fv1, fv2, e3, fun v H' F' n fv => ?_⟩
    exact q v H' (a1.trans a2) ⟨F', ow, ((D2.step n).push fv).drop (by intro p hp; simp at hp ⊢; rcases hp with h | h <;> simp [h])⟩ (k1.trans (k2.trans n.he.mono))
/-! ### whole != whole -/
def notBl (r : D × HS) : Option (D × HS) := match r.1 with
  | .bl b => some (.bl (!b), r.2)
  | _ => none
def neW (G : Fn) (d1 d2 : D) (hs : HS) : Option (D × HS) := match d1, d2 with
  | .obj a b, .obj a' b' => (G [.obj a b, .obj a' b'] hs).bind notBl
  | _, _ => none
theorem neW_inv {G : Fn} {d1 d2 d : D} {hs hs' : HS} (h : neW G d1 d2 hs = some (d, hs')) : ∃ x y x' y' r, d1 = .obj x y ∧ d2 = .obj x' y' ∧ G [.obj x y, .obj x' y'] hs = some (.bl r, hs') ∧ d = .bl (!r) := by
  unfold neW at h
  split at h <;> try (cases h; done)
  obtain ⟨⟨d3, h3⟩, e3, h⟩ := Option.bind_eq_some_iff.mp h
  cases d3 <;> simp [notBl] at h
  obtain ⟨rfl, rfl⟩ := h
  exact ⟨_, _, _, _, _, rfl, rfl, e3, rfl⟩
def eNeW (G : Fn) (f1 f2 : EDn) : EDn := fun Γ hs => (f1 Γ hs).bind fun r1 => (f2 Γ r1.2).bind fun r2 => neW G r1.1 r2.1 r2.2
theorem op_neW {CX : CXT} {G : Fn} {fa : Addr} {fd : FuncData} {ps : List Str} {n : Nat} {E : XK} (q : EqK X.K c.C fa) (F : FnOk X.prog X.w X.K X.mg X.base CX n fa fd ps (spD c G)) (hr : Room (n + 1) X.A) (hb : Binds X.K fd ps []) (hx : Passes CX X E) : OpR X (compareOp .NotEq) (rNeOwn c.C (spD c G) E) := op_neOwn q F hr hb hx
theorem snd_neW {G : Fn} {E : XK} (ha : Snd c ta f1) (hb : Snd c tb f2) : Snd c (tOp (rNeOwn c.C (spD c G) E) ta tb) (eNeW G f1 f2) := by
  intro B hs Γ tmp σ H D0 d hs' e Q q
  unfold eNeW at e
  obtain ⟨⟨d1, h1⟩, e1, e⟩ := Option.bind_eq_some_iff.mp e
  obtain ⟨⟨d2, h2⟩, e2, e⟩ := Option.bind_eq_some_iff.mp e
  refine ha B hs Γ tmp σ H D0 d1 h1 e1 _ fun v1 H1 a1 D1 k1 => ?_
  refine hb B h1 Γ _ σ H1 D1 d2 h2 e2 _ fun v2 H2 a2 D2 k2 => ?_
  rw [a1.ad] at k2
  obtain ⟨F, ow, D2⟩ := D2
  have fv1 : FD c F v1 d1 := D2.tmp (d1, v1) (by simp)
  have fv2 : FD c F v2 d2 := D2.tmp (d2, v2) (by simp)
  obtain ⟨x, y, x', y', r, rfl, rfl, e3, rfl⟩ := neW_inv e
  cases id fv1 with
  | @obj a dx xx yy _ _ ha' _ _ =>
  cases id fv2 with
  | @obj b dy xx2 yy2 _ _ hb' _ _ =>
  refine ⟨a, b, rfl, rfl, ⟨dx, _, D2.sub _ _ ha'⟩, ⟨dy, _, D2.sub _ _ hb'⟩, [_, _], h2, .bl r, hs', F, e3, D2.sub, D2.nt, D2.hF, D2.hH, D2.tabs, .cons fv1 (.cons fv2 .nil), fun v H' F' a3 n hf hh fv => ?_⟩
  cases fv
  have n2 := n.he
  rw [(a1.trans a2).ad] at n2
  exact ⟨r, rfl, q (.bl (!r)) H' ((a1.trans a2).trans a3) ⟨F', ow, ((D2.call n a3.ad hf hh).push (.bl (!r))).drop (by intro p hp; simp at hp ⊢; rcases hp with h | h <;> simp [h])⟩ (k1.trans (k2.trans n2))⟩
/-! ### while -/
def whileN : Nat → BDn → SDn → SDn
  | 0, _, _ => fun _ _ => none
  | n + 1, b, g => fun Γ hs => (b Γ hs).bind fun r => if r.1 = true then (g Γ r.2).bind fun q => match q.1 with
      | .nx Γ' => whileN n b g Γ' q.2
      | z => some (z, q.2)
    else some (.nx Γ, r.2)
theorem whileN_up : ∀ {n : Nat} {b : BDn} {g : SDn} {Γ : Env} {hs : HS} {r : Res × HS}, whileN n b g Γ hs = some r → whileN (n + 1) b g Γ hs = some r
  | 0, _, _, _, _, _, h => by cases h
  | n + 1, b, g, Γ, hs, r, h => by
    rw [whileN] at h ⊢
    obtain ⟨x, e1, h⟩ := Option.bind_eq_some_iff.mp h
    refine Option.bind_eq_some_iff.mpr ⟨x, e1, ?_⟩
    split at h
    · rename_i hx
      rw [if_pos hx]
      obtain ⟨y, e2, h⟩ := Option.bind_eq_some_iff.mp h
      refine Option.bind_eq_some_iff.mpr ⟨y, e2, ?_⟩
      split at h
      · exact whileN_up h
      · exact h
    · rename_i hx
      rw [if_neg hx]
      exact h
theorem whileN_le {n m : Nat} {b : BDn} {g : SDn} {Γ : Env} {hs : HS} {r : Res × HS} (h : whileN n b g Γ hs = some r) (hm : n ≤ m) : whileN m b g Γ hs = some r := by
  induction hm with
  | refl => exact h
  | step _ ih => exact whileN_up ih
open Classical in
noncomputable def sWhile (b : BDn) (g : SDn) : SDn := fun Γ hs => if h : ∃ n r, whileN n b g Γ hs = some r then some (h.choose_spec.choose) else none
theorem sWhile_of {n : Nat} {b : BDn} {g : SDn} {Γ : Env} {hs : HS} {r : Res × HS} (h : whileN n b g Γ hs = some r) : sWhile b g Γ hs = some r := by
  unfold sWhile
  have ex : ∃ n r, whileN n b g Γ hs = some r := ⟨n, r, h⟩
  rw [dif_pos ex]
  have e := ex.choose_spec.choose_spec
  have e1 := whileN_le e (Nat.le_max_left _ n)
  have e2 := whileN_le h (Nat.le_max_right ex.choose _)
  rw [e1] at e2
  exact e2
theorem sWhile_at {b : BDn} {g : SDn} {Γ : Env} {hs : HS} {r : Res × HS} (h : sWhile b g Γ hs = some r) : ∃ n, whileN n b g Γ hs = some r := by
  unfold sWhile at h
  split at h <;> try (cases h; done)
  rename_i ex
  injection h with h
  exact ⟨_, by rw [← h]; exact ex.choose_spec.choose_spec⟩
theorem ss_while (ht : SndT c tt ft) (hb : SndS c W t g) : SndS c W (tWhile tt t) (sWhile ft g) := by
  intro B hs Γ tmp σ H D0 r hs' e E p
  obtain ⟨n, e⟩ := sWhile_at e
  refine ⟨fun m σ H => ∃ Γ hsi, HSm hs hsi ∧ whileN m ft g Γ hsi = some (r, hs') ∧ DS c B hsi Γ tmp σ H, ⟨n, Γ, hs, HSm.refl hs, e, D0⟩, ?_⟩
  rintro m σi Hi ⟨Γi, hsi, ai, ei, Di⟩
  cases m with
  | zero => cases ei
  | succ m =>
    rw [whileN] at ei
    obtain ⟨⟨b, hs1⟩, e1, ei⟩ := Option.bind_eq_some_iff.mp ei
    refine ht B hsi Γi tmp σi Hi Di b hs1 e1 _ fun H1 a1 D1 k1 => ?_
    cases b with
    | true =>
      rw [if_pos rfl] at ei ⊢
      obtain ⟨⟨r1, hs2⟩, e2, ei⟩ := Option.bind_eq_some_iff.mp ei
      refine ⟨fun σ' H' => ∃ m', m' < m + 1 ∧ ∃ Γ hsi, HSm hs hsi ∧ whileN m' ft g Γ hsi = some (r, hs') ∧ DS c B hsi Γ tmp σ' H', fun σ' H' h => h, ?_⟩
      refine hb B hs1 Γi tmp σi H1 D1 r1 hs2 e2 _ fun a2 => ?_
      cases r1 with
      | nx Γ3 =>
        intro σ4 H4 D4
        exact ⟨m, Nat.lt_succ_self m, Γ3, hs2, (ai.trans a1).trans a2, ei, D4⟩
      | ret d =>
        cases ei
        exact p ((ai.trans a1).trans a2)
      | exc d =>
        cases ei
        exact p ((ai.trans a1).trans a2)
      | retO d =>
        cases ei
        exact p ((ai.trans a1).trans a2)
    | false =>
      rw [if_neg Bool.false_ne_true] at ei ⊢
      injection ei with ei
      injection ei with e3 e4
      subst e3 e4
      exact p (ai.trans a1) σi H1 D1
/-! ### x *= e -/
def sMulA (i : Nat) (fe : EDn) : SDn := fun Γ hs => match Γ[i]? with
  | some (.dat (.int a)) => (fe Γ hs).bind fun r => match r.1 with
    | .int b => if -1000 ≤ a ∧ a ≤ 1000 then some (.nx (Γ.set i (.dat (.int (a * b)))), r.2) else none
    | _ => none
  | _ => none
theorem ss_mulA {i : Nat} (h : Snd c te f) : SndS c W (tAug i te (rI CMul fun a b => .int (a * b))) (sMulA i f) := by
  intro B hs Γ tmp σ H D0 r hs' e E p
  unfold sMulA at e
  split at e <;> try (cases e; done)
  rename_i a hi
  obtain ⟨⟨d, hs1⟩, e1, e⟩ := Option.bind_eq_some_iff.mp e
  split at e <;> try (cases e; done)
  rename_i b hd
  have hd : d = .int b := hd
  subst hd
  split at e <;> try (cases e; done)
  rename_i hz
  injection e with e
  injection e with e2 e3
  have e3 : hs1 = hs' := e3
  subst e2 e3
  obtain ⟨F0, ow0, d0⟩ := id D0
  obtain ⟨v, hv, fv⟩ := d0.slot i _ hi
  refine ⟨v, hv, ?_⟩
  cases fv
  refine h B hs Γ tmp σ H D0 _ _ e1 _ fun w H1 a1 D1 _ => ?_
  obtain ⟨F, ow, d1⟩ := D1
  have fw := d1.tmp (.int b, w) (by simp)
  cases fw
  refine ⟨a, b, rfl, rfl, .inl ⟨by omega, by omega⟩, ?_⟩
  exact p a1 _ _ ⟨F, ow, d1.pop.set (.int _)⟩
end
end Dl
/-! Glue: what is known of a def, calls by it, assignments to any target. -/
namespace Dl
open PySem PySem.Spec PyProof.Rows L2
section
variable {c : Cf} {X : Cx} {W : WX'} {te ta tb ti : TE} {tt : TT} {f f1 f2 : EDn} {t u : TS} {g g1 g2 : SDn} {ft : BDn} {tas : TA} {l : LDn}
/-- what is known of a def: its promise, and that its name stands -/
structure Df (c : Cf) (mg : Str → Option Value) (base : Heap) (x : Str) (k : Nat) (G : Fn) : Prop where
  ex : ∃ f fd ps, FnOk c.P c.w c.K mg base CX0 k f fd ps (spD c G) ∧ mg x = some (.ref f) ∧ PySem.W.keepIn c.K (.ref f) = true ∧ Binds c.K fd ps []
/-- the context stands over c, mg, base -/
structure Ov (c : Cf) (mg : Str → Option Value) (base : Heap) (X : Cx) : Prop where
  cf : CfOk c X
  mg : X.mg = mg
  base : X.base = base
theorem pe_df {mg : Str → Option Value} {base : Heap} {x : Str} {k j : Nat} {G : Fn} {e : Expr} {es : List Expr} {p pos : Pos} (D : Df c mg base x k G) (o : Ov c mg base X) (hr : Room j X.A) (hg : Gl X x) (ha : PA X (e :: es) tas) (hj : k ≤ j := by decide) (hdb : (x == ("__debug__" : Str)) = false := by decide) (he : starEach (e :: es) X.env = (false, eval e X.env) :: starEach es X.env := by rfl) (hpl : (backTo pos (starEach es X.env)).any (·.1) = false := by rfl) :
    PE X (.Call (.Name x p) (e :: es) [] pos) (tCall (spD c G) [] E0 tas) := by
  obtain ⟨f, fd, ps, F, hm, hk, hb⟩ := D.ex
  have hcf := o.cf
  rw [hcf.P, hcf.w, hcf.K, ← o.mg, ← o.base] at F
  rw [hcf.K] at hk hb
  rw [← o.mg] at hm
  exact pe_call F (hr.mono hj) hg hm hk hb .nil pass0 ha hdb he hpl
/-- any target -/
def sAsgG (f : EDn) (gd : GDn) : SDn := fun Γ hs => (f Γ hs).bind fun r => (gd r.1 Γ).map fun Γ' => (.nx Γ', r.2)
theorem ss_asgG {tg : TG} {js : List Nat} {gd : GDn} (h : Snd c te f) (hg : SndG c tg js gd) : SndS c W (tAsg te tg) (sAsgG f gd) := by
  intro B hs Γ tmp σ H D0 r hs' e E p
  unfold sAsgG at e
  obtain ⟨⟨x, hs1⟩, e1, e⟩ := Option.bind_eq_some_iff.mp e
  obtain ⟨Γ', e2, e⟩ := Option.map_eq_some_iff.mp e
  injection e with e3 e4
  have e4 : hs1 = hs' := e4
  subst e3 e4
  refine h B hs Γ tmp σ H D0 x hs1 e1 _ fun v H1 a1 D1 _ => ?_
  exact hg B hs1 Γ tmp σ H1 v x D1 Γ' e2 _ fun σ' _ _ _ _ D2 => p a1 _ _ D2.pop
/-- a call whose value is dropped, a value dropped -/
def sDrop (f : EDn) : SDn := fun Γ hs => (f Γ hs).map fun r => (.nx Γ, r.2)
theorem ss_drop (h : Snd c te f) : SndS c W (tDrop te) (sDrop f) := by
  intro B hs Γ tmp σ H D0 r hs' e E p
  unfold sDrop at e
  obtain ⟨⟨x, hs1⟩, e1, e⟩ := Option.map_eq_some_iff.mp e
  injection e with e3 e4
  subst e3 e4
  exact h B hs Γ tmp σ H D0 x hs1 e1 _ fun v H1 a1 D1 _ => p a1 _ _ D1.pop
end
end Dl
/-! Joined operations; or as a value; what is known of the text's names. -/
namespace Dl
open PySem PySem.Spec PyProof.Rows L2
section
variable {c : Cf} {X : Cx} {W : WX'} {te ta tb ti : TE} {tt : TT} {f f1 f2 : EDn} {t u : TS} {g g1 g2 : SDn} {ft : BDn} {tas : TA} {l : LDn}
/-- ints or tuples -/
def dLtU : D → D → Option D
  | .int i, .int j => some (.bl (decide (i < j)))
  | a, b => dLtT a b
theorem op_ltU (k : CfOk c X) (hu : X.A.units + 64 < cLine) : OpR X (compareOp .Lt) (rD c dLtU) := by
  intro pins s σ H x y v u Q I rx ry h
  obtain ⟨F, d1, d2, d, sub, nt, f1, f2, e, q⟩ := h
  unfold dLtU at e
  split at e
  · exact op_ltD pins s σ H x y v u Q I rx ry ⟨F, _, _, d, sub, nt, f1, f2, e, q⟩
  · exact op_ltTD k hu pins s σ H x y v u Q I rx ry ⟨F, _, _, d, sub, nt, f1, f2, e, q⟩
/-- told things, or data -/
noncomputable def dNeU : D → D → Option D
  | .tup [.str x, .dic z ks], .tup [.str y, .dic z' ls] => dNeTold (.tup [.str x, .dic z ks]) (.tup [.str y, .dic z' ls])
  | a, b => dNe a b
theorem op_neU (k : CfOk c X) (hu : X.A.units + 80 < cLine) : OpR X (compareOp .NotEq) (rD c dNeU) := by
  intro pins s σ H x y v u Q I rx ry h
  obtain ⟨F, d1, d2, d, sub, nt, f1, f2, e, q⟩ := h
  unfold dNeU at e
  split at e
  · exact op_neTold k hu pins s σ H x y v u Q I rx ry ⟨F, _, _, d, sub, nt, f1, f2, e, q⟩
  · exact op_neDD k (by omega) pins s σ H x y v u Q I rx ry ⟨F, _, _, d, sub, nt, f1, f2, e, q⟩
theorem snd_orV (h1 : Snd c ta f1) (h2 : Snd c tb f2) : Snd c (tOrV ta tb) (eB (bOr (bOf f1) (bOf f2))) := by
  intro B hs Γ tmp σ H d b hs' e Q q
  unfold eB bOr at e
  obtain ⟨⟨x, hs1⟩, e1, e⟩ := Option.map_eq_some_iff.mp e
  obtain ⟨⟨y, hs2⟩, e2, e1⟩ := Option.bind_eq_some_iff.mp e1
  cases e
  refine (st_val h1) B hs Γ tmp σ H d y hs2 e2 _ fun H1 a1 D1 k1 => ?_
  cases y with
  | false =>
    rw [if_neg Bool.false_ne_true] at e1 ⊢
    unfold bOf at e1
    obtain ⟨⟨z, hs3⟩, e3, e1⟩ := Option.bind_eq_some_iff.mp e1
    cases z <;> try (cases e1)
    refine h2 B hs2 Γ tmp σ H1 D1 _ _ e3 _ fun v H2 a2 D2 k2 => ?_
    rw [a1.ad] at k2
    exact q v H2 (a1.trans a2) D2 (k1.trans k2)
  | true =>
    rw [if_pos rfl] at e1 ⊢
    cases e1
    obtain ⟨F, ow, D1⟩ := D1
    exact q _ H1 a1 ⟨F, ow, D1.push (.bl true)⟩ k1
/-- the text's builtins are its own -/
structure Bt (mg : Str → Option Value) : Prop where
  isinstance : mg "isinstance" = none
  int : mg "int" = none
  bool : mg "bool" = none
  tuple : mg "tuple" = none
  list : mg "list" = none
  dict : mg "dict" = none
  set : mg "set" = none
  len : mg "len" = none
  abs : mg "abs" = none
  all : mg "all" = none
  any : mg "any" = none
  sum : mg "sum" = none
  sorted : mg "sorted" = none
  range : mg "range" = none
  enumerate : mg "enumerate" = none
  zip : mg "zip" = none
/-- the text's constants -/
structure Gc (c : Cf) (mg : Str → Option Value) : Prop where
  zero : ∃ a, mg "ZERO" = some (.ref a) ∧ ∀ F, FD c F (.ref a) (tupI [0, 1])
  one : ∃ a, mg "ONE" = some (.ref a) ∧ ∀ F, FD c F (.ref a) (tupI [1, 1])
  cols : ∃ t, mg "MOST_COLUMNS" = some (.int 4 t)
  worths : ∃ t, mg "MOST_WORTHS" = some (.int 4 t)
  contents : ∃ t, mg "MOST_CONTENTS" = some (.int 64 t)
  blank : ∃ t, mg "BLANK" = some (.int (-1) t)
  whole : mg "Whole" = some (.ref c.C)
theorem pe_gi {mg : Str → Option Value} {base : Heap} {x : Str} {i : Int} {pos : Pos} (o : Ov c mg base X) (h : ∃ t, mg x = some (.int i t)) (hg : Gl X x) (hd : (x == ("__debug__" : Str)) = false := by decide) : PE X (.Name x pos) (tC (.int i)) := by
  obtain ⟨t, h⟩ := h
  rw [← o.mg] at h
  exact pe_glob hg h ⟨t, rfl⟩ hd
theorem pe_gr {mg : Str → Option Value} {base : Heap} {x : Str} {a : Addr} {pos : Pos} (o : Ov c mg base X) (h : mg x = some (.ref a)) (hg : Gl X x) (hd : (x == ("__debug__" : Str)) = false := by decide) : PE X (.Name x pos) (tC (.ref a)) := by
  rw [← o.mg] at h
  exact pe_glob hg h (show RelV (.ref a) (Value.ref a) from rfl) hd
theorem pe_ty {x : Str} {n : String} {pos : Pos} (hm : X.mg x = none) (hv : bootBuiltins x = some (.type n)) (hg : Gl X x) (hn : x ≠ "__name__" := by decide) (hd : (x == ("__debug__" : Str)) = false := by decide) : PE X (.Name x pos) (tC (.ty n)) :=
  pe_bltn hg hm hv (show RelV (.ty n) (Value.type n) from rfl) hn hd
theorem snd_newN : Snd c (tDNew c) (eC (.dic false [])) := by
  intro B hs Γ tmp σ H D0 d hs' e Q q
  cases e
  intro p hp
  obtain ⟨F, ow, d0⟩ := D0
  have n := Nx.lay (c := c) (ad := none) (o := dN c p []) d0.sub d0.nt hp (by intro ps z; unfold dN at z; cases z)
  exact q _ _ (HSm.refl hs) ⟨_, ow, (d0.step n).push (.dicF upd_same .nil)⟩ n.he.mono
/-- a def's slots die -/
theorem hu64 {A : Around} {k : Nat} (hr : Room k A) : A.units + 64 < cLine := by have := hr.un; omega
theorem hu80 {A : Around} {k : Nat} (hr : Room k A) : A.units + 80 < cLine := by have := hr.un; omega
theorem hu65 {A : Around} {k : Nat} (hr : Room k A) : A.units + 65 < cLine := by have := hr.un; omega
theorem hu70 {A : Around} {k : Nat} (hr : Room k A) : A.units + 70 < cLine := by have := hr.un; omega
theorem hu1 {A : Around} {k : Nat} (hr : Room k A) : A.units + 1 < cLine := by have := hr.un; omega
theorem bb_isinstance : bootBuiltins "isinstance" = some (.builtin "isinstance") := by decide +kernel
theorem bb_len : bootBuiltins "len" = some (.builtin "len") := by decide +kernel
theorem bb_abs : bootBuiltins "abs" = some (.builtin "abs") := by decide +kernel
theorem bb_all : bootBuiltins "all" = some (.builtin "all") := by decide +kernel
theorem bb_any : bootBuiltins "any" = some (.builtin "any") := by decide +kernel
theorem bb_sum : bootBuiltins "sum" = some (.builtin "sum") := by decide +kernel
theorem bb_sorted : bootBuiltins "sorted" = some (.builtin "sorted") := by decide +kernel
theorem bb_int : bootBuiltins "int" = some (.type "int") := by decide +kernel
theorem bb_bool : bootBuiltins "bool" = some (.type "bool") := by decide +kernel
theorem bb_tuple : bootBuiltins "tuple" = some (.type "tuple") := by decide +kernel
theorem bb_list : bootBuiltins "list" = some (.type "list") := by decide +kernel
theorem bb_dict : bootBuiltins "dict" = some (.type "dict") := by decide +kernel
theorem bb_set : bootBuiltins "set" = some (.type "set") := by decide +kernel
end
end Dl
namespace Dl
open PySem PySem.Spec PyProof.Rows L2
def top (i : Nat) : Stmt := PySem.Challenge.pw_calmblanks_k28_whole_odds_along_columns.main.body.getD i (.Pass ⟨0, 0, 0, 0⟩)
/-- a def's function object -/
abbrev FnP (K : PySem.W.Frag) (x : Str) (st : Stmt) (f : Addr) (fd : FuncData) : Prop := FunD K x x (defArgs st) (defBody st) (defScope st) [] [] f fd
end Dl
/-! The lambda: made, handed on, called with one argument in a def (or its callee) that got it; defs promised of a state. -/
namespace Dl
open PySem PySem.Spec PyProof.Rows L2
/-- the lambda's words -/
structure LW where
  params : Arguments
  body : Expr
  scope : Scope
/-- the lambda stands at f, its code object at c', its captured name holds x -/
def LamO (L : LW) (q : Str) (s : Shared) (H : Hp) (fs : List Addr) (f c' : Addr) (x : V) : Prop :=
  ∃ (pm ctv : Value) (cl : List (Str × Addr)), s.heap.get? f = some (PySem.W.kla_obj "<lambda>" q L.params L.body L.scope cl pm c' ctv) ∧ H f = none ∧ f ∉ fs ∧ NdefX.CellsAt cl ["sizes"] [some x] s.heap H ∧ ∀ y a, cl.lookup y = some a → a ∉ fs
section
variable {X : Cx} {pins : List (Addr × Obj)} {σ : L2.St} {H : Hp} {s : Shared} {L : LW} {q : Str} {f c' : Addr} {x : V}
theorem LamO.later (h : LamO L q X.s_0 X.H_0 X.fs f c' x) (hex : X.ex = []) (I : Inv X pins σ H s) : LamO L q s H X.fs f c' x := by
  obtain ⟨pm, ctv, cl, h1, h2, h3, h4, h5⟩ := h
  exact ⟨pm, ctv, cl, I.base.keep f _ h1 h2 h3 (by rw [hex]; simp), I.base.free f _ h1 h2 (by rw [hex]; simp), h3, h4.later h5 (fun y a _ => by rw [hex]; simp) I, h5⟩
theorem LamO.stack (h : LamO L q X.s_0 X.H_0 X.fs f c' x) (hex : X.ex = []) (I : Inv X pins σ H s) : LamO L q s H (frs X.stack) f c' x := by
  have g := h.later hex I
  obtain ⟨pm, ctv, cl, h1, h2, h3, h4, h5⟩ := h
  obtain ⟨pm', ctv', cl', g1, g2, g3, g4, g5⟩ := g
  have old : ∀ {a o}, X.s_0.heap.get? a = some o → a ≠ X.env.locals := fun e z => by
    subst z
    exact Nat.lt_irrefl _ (Nat.lt_of_lt_of_le (Heap.lt_size e) I.ok.above)
  have e1 := I.base.keep f _ h1 h2 h3 (by rw [hex]; simp)
  rw [g1] at e1
  injection e1 with e1
  have ecl : cl' = cl := by
    have := congrArg (fun o : Obj => match o.data with | .func fd => fd.closure | _ => []) e1
    exact this
  subst ecl
  refine ⟨pm', ctv', cl', g1, g2, fun z => ?_, g4, fun y a e z => ?_⟩
  · rcases List.mem_cons.mp (I.stkSub _ z) with w | w
    · exact old h1 w
    · exact g3 w
  · rcases List.mem_cons.mp (I.stkSub _ z) with w | w
    · obtain ⟨n, v, o, ho, _⟩ := h4.all y a e
      exact old ho w
    · exact g5 y a e w
end
/-! ### defs promised of a state -/
structure FnS (P : Program) (w : World) (K : PySem.W.Frag) (mg : Str → Option Value) (base : Heap) (cond : Shared → Hp → List PySem.Env → Prop) (k : Nat) (f : Addr) (fd : FuncData) (ps : List Str) (sp : Sp) : Prop where
  len : ∀ vs H Q E, sp vs H Q E → vs.length = ps.length
  run : ∀ (A : Around) (outer : List PySem.Env) (s : Shared) (H : Hp) (args : Args) (us : List Value) (vs : List V) (Q : VK) (E : XK), Room k A → Env0 P w K mg base A outer s H → cond s H outer → BindsTo s fd args (ps.zip us) → Vals vs us → sp vs H Q E →
    codeAny (model P w) A (.call (.ref f) args) (CR CX0 outer P w H s Q E) s
theorem FnS.of {P : Program} {w : World} {K : PySem.W.Frag} {mg : Str → Option Value} {base : Heap} {cond : Shared → Hp → List PySem.Env → Prop} {k : Nat} {x qual : Str} {params : Arguments} {body : List Stmt} {scope : Scope} {dvs : List V} {kws : List (Str × V)} {f : Addr} {fd : FuncData} {N ps : List Str} {sp : Sp}
    (F : FunD K x qual params body scope dvs kws f fd) (S : FnScope N ps scope) (len : ∀ vs H Q E, sp vs H Q E → vs.length = ps.length)
    (hbody : ∀ (cdv : Value) (A : Around) (outer : List PySem.Env) (s : Shared) (H : Hp) (vs : List V) (Q : VK) (E : XK), Room k (A.deeper (envOfC qual scope s.heap.objs.size f cdv)) → cond s H outer → sp vs H Q E →
      ∃ t, PSs (cxOf CX0 P w K mg base N qual scope f cdv A outer s H E) body t ∧ t { nx := fun _ H' => Q .non H', rt := Q } (start N vs) H) : FnS P w K mg base cond (k + 1) f fd ps sp := by
  obtain ⟨oc, od, dV, kV, doc, pm, an, cdv, ct, osl, rfl, lk, hcd, _, _⟩ := F.ex
  refine ⟨len, fun A outer s H args us vs Q E hr e0 hc hb r h => ?_⟩
  exact LamX.run_ofS lk hcd S hr e0 hb r (len _ _ _ _ h) fun hr' => hbody cdv A outer s H vs Q E hr' hc h
structure DfS (c : Cf) (mg : Str → Option Value) (base : Heap) (x : Str) (cond : Shared → Hp → List PySem.Env → Prop) (k : Nat) (G : Fn) : Prop where
  ex : ∃ f fd ps, FnS c.P c.w c.K mg base cond k f fd ps (spD c G) ∧ mg x = some (.ref f) ∧ PySem.W.keepIn c.K (.ref f) = true ∧ Binds c.K fd ps []
theorem FnS.mono {P : Program} {w : World} {K : PySem.W.Frag} {mg : Str → Option Value} {base : Heap} {cond : Shared → Hp → List PySem.Env → Prop} {j k : Nat} {f : Addr} {fd : FuncData} {ps : List Str} {sp : Sp} (F : FnS P w K mg base cond j f fd ps sp) (h : j ≤ k) : FnS P w K mg base cond k f fd ps sp :=
  ⟨F.len, fun A outer s H args us vs Q E hr => F.run A outer s H args us vs Q E (hr.mono h)⟩
section
variable {c : Cf} {X : Cx} {W : WX'} {te ta tb ti : TE} {tt : TT} {f1 f2 : EDn} {tas : TA} {l : LDn}
theorem run_fnT {cond : Shared → Hp → List PySem.Env → Prop} {k : Nat} {f : Addr} {fd : FuncData} {ps : List Str} {sp : Sp} {E : XK} (F : FnS X.prog X.w X.K X.mg X.base cond k f fd ps sp) (hr : Room k X.A) (hb : Binds X.K fd ps []) {pins : List (Addr × Obj)} {σ : L2.St} {H : Hp} {s : Shared} {us : List Value} {vs : List V} {Q : VK} (I : Inv X pins σ H s)
    (hc : cond s H X.stack) (r : Vals vs us) (h : sp vs H Q E) : wpAny (model X.prog X.w) X.A (call (.ref f) us) (EP X pins σ Q) X.xe s := by
  have hl : us.length = ps.length := by
    rw [← r.length]
    exact F.len _ _ _ _ h
  have bd := hb s us I.kIn (by rw [List.append_nil]; exact hl)
  rw [List.append_nil] at bd
  refine wpAny_call (codeAny_mono (F.run X.A X.stack s H ⟨us, []⟩ us vs Q E hr I.env0 hc bd r h) fun z s' hq => ?_)
  cases z with
  | error e => exact hq.elim
  | ok fl =>
    cases fl with
    | ret u => exact I.after hq
    | next => exact False.elim hq
    | brk => exact False.elim hq
    | cont => exact False.elim hq
theorem pe_dfS {mg : Str → Option Value} {base : Heap} {x : Str} {cond : Shared → Hp → List PySem.Env → Prop} {k j : Nat} {G : Fn} {e : Expr} {es : List Expr} {p pos : Pos} (D : DfS c mg base x cond k G) (o : Ov c mg base X) (hr : Room j X.A) (hc : ∀ pins σ H s, Inv X pins σ H s → cond s H X.stack) (hg : Gl X x) (ha : PA X (e :: es) tas) (hj : k ≤ j := by decide) (hdb : (x == ("__debug__" : Str)) = false := by decide) (he : starEach (e :: es) X.env = (false, eval e X.env) :: starEach es X.env := by rfl) (hpl : (backTo pos (starEach es X.env)).any (·.1) = false := by rfl) :
    PE X (.Call (.Name x p) (e :: es) [] pos) (tCall (spD c G) [] E0 tas) := by
  obtain ⟨f, fd, ps, F, hm, hk, hb⟩ := D.ex
  have hcf := o.cf
  rw [hcf.P, hcf.w, hcf.K, ← o.mg, ← o.base] at F
  rw [hcf.K] at hk hb
  rw [← o.mg] at hm
  refine ⟨fun pins s σ H Q I h => ?_⟩
  refine wpAny_Call_Name_kw (ld_glob I hg hm ?_ hdb)
  refine PySem.W.callWith_K (h₀ := X.base) I.ok.mod.kin hk (thn (ha.run pos pins s σ H _ I h) fun us s1 ⟨vs, H1, I1, r, q⟩ => ⟨I1.kIn, ?_⟩) he hpl
  have q : spD c G vs H1 Q E0 := by simpa using q
  exact run_fnT F (hr.mono hj) hb I1 (hc _ _ _ _ I1) r q
/-! ### the lambda's call -/
abbrev lamNF (L : LW) (q : Str) (cl : List (Str × Addr)) (c' : Addr) : NdefX.NF := ⟨"<lambda>", q, L.params, [], L.scope, cl, c'⟩
def tLamC (c : Cf) (i : Nat) (f c' : Addr) (x : V) (G : Fn) (ta : TA) : TE := fun σ H Q => σ[i]? = some (some (.ref f)) ∧ ta σ H fun vs H1 => H1 c' = some (LamX.CodeO c' c.lamq) ∧ spD c G (x :: vs) H1 Q E0
theorem pe_lam {mg : Str → Option Value} {base : Heap} {L : LW} {f c' : Addr} {x : V} {G : Fn} {i k : Nat} {a : Str} {e : Expr} {p1 p2 : Pos} (o : Ov c mg base X) (hex : X.ex = []) (hL : LamO L c.lamq X.s_0 X.H_0 X.fs f c' x) (calm : X.calm = true) (hr : Room (k + 1) X.A) (S : NdefX.NScope ["thing", "sizes"] ["thing"] ["sizes"] L.scope) (sp1 : ∀ vs H Q E, spD c G vs H Q E → vs.length = 2)
    (hbind : ∀ (cl : List (Str × Addr)) (pm cv ctv u : Value), bindArgs (PySem.W.kla_fn "<lambda>" c.lamq L.params L.body L.scope cl pm cv ctv) ⟨[u], []⟩ = pure [(("thing" : Str), u)])
    (hbody : ∀ (cl : List (Str × Addr)) (A : Around) (outer : List PySem.Env) (s : Shared) (H : Hp) (E : XK), Room k (A.deeper (NdefX.envF (lamNF L c.lamq cl c') f s.heap.objs.size)) →
      PE (NdefX.ncx CX0 c.P c.w c.K mg base ["thing", "sizes"] (lamNF L c.lamq cl c') f A outer s H E) L.body (tCall (spD c G) [] E0 (tCons (tVar 1) (tCons (tVar 0) tNil))))
    (ha : PA X [e] tas) (hN : X.N[i]? = some a) (hv : Vis X.env.scope a) (hd : (a == ("__debug__" : Str)) = false := by decide) (hcd : (a == ("__classdict__" : Str)) = false := by decide) (hs1 : starEach [e] X.env = (false, eval e X.env) :: starEach [] X.env := by rfl) (hpl : (backTo p2 (starEach [] X.env)).any (·.1) = false := by rfl) :
    PE X (.Call (.Name a p1) [e] [] p2) (tLamC c i f c' x G tas) := by
  refine ⟨fun pins s σ H Q I h => ?_⟩
  obtain ⟨hs, h⟩ := h
  refine wpAny_Call_Name_kw (thn ((pe_var (pos := p1) (i := i) hN hv hd hcd).run pins s σ H (fun v H1 => v = .ref f ∧ H1 = H) I ⟨.ref f, hs, rfl, rfl⟩) fun u s1 ⟨v, H1, I1, r1, q1⟩ => ?_)
  obtain ⟨ev, eH⟩ := q1
  subst ev
  rw [eH] at I1
  obtain rfl : u = Value.ref f := r1
  obtain ⟨pm, ctv, cl, g1, g2, g3, g4, g5⟩ := hL.later hex I1
  refine PySem.W.callWith_F ⟨_, _, _, _, g1⟩ (thn (ha.run p2 pins s1 σ H _ I1 h) fun us s2 ⟨vs, H2, I2, rv, hco, q2⟩ => ?_) hs1 hpl
  obtain ⟨pm2, ctv2, cl2, k1, k2, k3, k4, k5⟩ := hL.stack hex I2
  refine ⟨⟨_, _, _, _, k1⟩, ?_⟩
  obtain ⟨⟨oc, cvs, t, hoc, hdc, hvc⟩, _, _⟩ := I2.hok c' _ hco
  have e0 := I2.env0
  have hcf := o.cf
  have hl1 : vs.length = 1 := by
    have := sp1 _ _ _ _ q2
    simpa using this
  rw [← hcf.P, ← hcf.w, ← hcf.K, o.mg, o.base] at e0
  have lu : us.length = 1 := by rw [← rv.length, hl1]
  obtain ⟨u, rfl⟩ : ∃ u, us = [u] := by
    match us, lu with
    | [u], _ => exact ⟨u, rfl⟩
  have rc : codeAny (model X.prog X.w) X.A (.call (.ref f) ⟨[u], []⟩) (CR CX0 X.stack X.prog X.w H2 s2 Q E0) s2 := by
    rw [← hcf.P, ← hcf.w]
    refine PySem.W.kla_callFunE hr.depth k1 rfl S.co S.gen rfl ⟨c', oc, cvs, t, rfl, hoc, hdc, hvc⟩ ?_
    rw [hbind]
    refine wpAny_pure (wpAny_newFunctionEnv S.nocell (fun ⟨n, w⟩ hy => ?_) (fun h₁ hns hsb => ⟨I2.nolimit.fresh _ hsb, ?_⟩) S.kind)
    · rw [show n = "thing" from congrArg Prod.fst (List.mem_singleton.mp hy)]
      exact S.par "thing" (by simp)
    · have kp : ∀ b o, s2.heap.get? b = some o → h₁.get? b = some o := fun b o e => hsb.extBut b o (Nat.ne_of_lt (Heap.lt_size e)) (Heap.get?_push_of_some _ e)
      have J : Inv (NdefX.ncx CX0 c.P c.w c.K mg base ["thing", "sizes"] (lamNF L c.lamq cl2 c') f X.A X.stack s2 H2 E0) [] (NdefX.startF ["thing", "sizes"] vs [some x]) H2 { s2 with heap := h₁, toks := s2.toks + ([((("thing" : Str)), u)]).length } :=
        NdefX.inv_startN (ps := ["thing"]) (fr := ["sizes"]) S hr.hd e0 (by simpa using hl1) rv k4 hns kp
      obtain ⟨y, rfl⟩ : ∃ y, vs = [y] := by
        match vs, hl1 with
        | [y], _ => exact ⟨y, rfl⟩
      refine PySem.W.kla_codeExpr (wpAny_mono ((hbody cl2 X.A X.stack s2 H2 E0 (hr.deeper _)).run [] _ _ H2 Q J ⟨x, rfl, y, rfl, show spD c G ([x, y] ++ []) H2 Q E0 from q2⟩) (fun v s' hq => ?_) fun e s' hq => hq)
      obtain ⟨w', H', J', rv', q'⟩ := hq
      exact ⟨w', H', J'.os, J'.bare, J'.base, J'.hok, rv', q'⟩
  refine wpAny_call (codeAny_mono rc fun r s' hq => ?_)
  cases r with
  | error e => exact hq.elim
  | ok fl =>
    cases fl with
    | ret u => exact I2.after hq
    | next => exact False.elim hq
    | brk => exact False.elim hq
    | cont => exact False.elim hq
open Classical in
/-- is_key(e): slot i holds the lambda -/
noncomputable def eLam (f c' : Addr) (x : V) (i : Nat) (G : Fn) (l : LDn) : EDn := fun Γ hs => match Γ[i]? with
  | some (.dat (.lam f' cc x' sz)) => if f' = f ∧ cc = c' ∧ x' = x then (l Γ hs).bind fun r => G (sz :: r.1) r.2 else none
  | _ => none
theorem snd_lam {f c' : Addr} {x : V} {i : Nat} {G : Fn} (h : SndA c tas l) : Snd c (tLamC c i f c' x G tas) (eLam f c' x i G l) := by
  intro B hs Γ tmp σ H D0 d hs' e Q q
  unfold eLam at e
  split at e <;> try (cases e; done)
  rename_i f' cc x' sz hi
  split at e <;> try (cases e; done)
  rename_i hz
  obtain ⟨rfl, rfl, rfl⟩ := hz
  obtain ⟨⟨ds, hs1⟩, e1, e⟩ := Option.bind_eq_some_iff.mp e
  obtain ⟨F0, ow0, d0⟩ := id D0
  obtain ⟨v, hv, fv⟩ := d0.slot i _ hi
  cases fv
  refine ⟨hv, ?_⟩
  refine h B hs Γ tmp σ H D0 ds hs1 e1 _ fun vs H1 a1 ln D1 k1 => ?_
  obtain ⟨F, ow, d1⟩ := D1
  obtain ⟨v', hv', fv'⟩ := d1.slot i _ hi
  rw [hv] at hv'
  cases hv'
  cases fv' with
  | lam hco fx =>
  refine ⟨d1.sub _ _ hco, sz :: ds, hs1, d, hs', F, e, d1.sub, d1.nt, d1.hF, d1.hH, d1.tabs, .cons fx (fds_zip ln (fun p hp => d1.tmp p (List.mem_append_left _ hp))), fun v H' F' a2 n hf hh fv => ?_⟩
  have n2 := n.he
  rw [a1.ad] at n2
  exact q v H' (a1.trans a2) ⟨F', ow, ((d1.call n a2.ad hf hh).push fv).drop (by intro p hp; simp at hp ⊢; rcases hp with h | h <;> simp [h])⟩ (k1.trans n2)
end
end Dl
namespace Dl
open PySem PySem.Spec PyProof.Rows L2
/-! the text's lambda -/
def clsBody : Stmt → List Stmt
  | .ClassDef _ _ _ b _ _ _ _ _ _ _ => b
  | _ => []
abbrev s_init : Stmt := (clsBody (top 35)).getD 0 (.Pass ⟨0, 0, 0, 0⟩)
abbrev s_eq : Stmt := (clsBody (top 35)).getD 1 (.Pass ⟨0, 0, 0, 0⟩)
def lamArg : Stmt → LW
  | .Assign _ (.Call _ [_, _, .Lambda p b sc _] _ _) _ => ⟨p, b, sc⟩
  | _ => ⟨{ posonlyargs := [], args := [], vararg := none, kwonlyargs := [], kw_defaults := [], kwarg := none, defaults := [] }, .Constant .none 0 ⟨0, 0, 0, 0⟩, { kind := .function, names := [], isGenerator := false, isCoroutine := false }⟩
abbrev lamW : LW := lamArg ((defBody s_init).getD 0 (.Pass ⟨0, 0, 0, 0⟩))
theorem nsc_lam : NdefX.NScope ["thing", "sizes"] ["thing"] ["sizes"] lamW.scope := NdefX.nscope_by (by decide +kernel)
/-- a state in which the lambda stands -/
abbrev lamCond (c : Cf) (f0 c0 : Addr) (x0 : V) : Shared → Hp → List PySem.Env → Prop := fun s H outer => LamO lamW c.lamq s H (frs outer) f0 c0 x0
end Dl
namespace Dl
open PySem PySem.Spec PyProof.Rows L2
abbrev s_is_integer : Stmt := top 1
abbrev N_is_integer : List Str := ["thing"]
theorem sc_is_integer : FnScope N_is_integer ["thing"] (defScope s_is_integer) := ⟨rfl, rfl, rfl, by decide +kernel, rfl, by decide +kernel, by decide +kernel⟩
noncomputable def dn_is_integer (c : Cf) : SDn :=
    (sRet (eB (bAnd (bOf (eFn (dIsi c) (lCons (eVar 0) (lCons (eC (.ty "int")) lNil)))) (bOf (eB (bNot (bOf (eFn (dIsi c) (lCons (eVar 0) (lCons (eC (.ty "bool")) lNil))))))))))
noncomputable abbrev G_is_integer (c : Cf) : Fn := fnG 1 1 (dn_is_integer c)
theorem ok_is_integer {c : Cf} {mg : Str → Option Value} {base : Heap} {f : Addr} {fd : FuncData} (hW : Wf c.K c.C) (hB : Bt mg) (hG : Gc c mg) (F : FnP c.K "is_integer" s_is_integer f fd) (hm : mg "is_integer" = some (.ref f)) : Df c mg base "is_integer" 1 (G_is_integer c) := by
  refine ⟨f, fd, ["thing"], F.ok sc_is_integer (fun vs H Q E h => sp_len h) (fun cdv A outer s H vs Q E hr h => ?_), hm, F.kp, F.bindsN fun _ _ _ _ _ _ us hl => match us, hl with | [_], _ => rfl⟩
  suffices h2 : ∃ t, PSs (cxOf CX0 c.P c.w c.K mg base N_is_integer "is_integer" (defScope s_is_integer) f cdv A outer s H E).nox (defBody s_is_integer) t ∧ SndS c (fun _ _ _ _ => False) t (dn_is_integer c) by
    obtain ⟨t, h3, h4⟩ := h2
    exact ⟨t, PSs.nox h3, fn_body h4 (by decide) h⟩
  refine ⟨_, (pss_one (ps_ret (pe_and (pe_callB (call_isiD (by exact ⟨rfl, rfl, rfl⟩) hW) (by rfl) (by exact hB.isinstance) bb_isinstance (pa_cons (pv 0) (pa_cons (pe_ty (by exact hB.int) bb_int (by rfl)) pa_nil))) (pe_one (pe_not (pe_callB (call_isiD (by exact ⟨rfl, rfl, rfl⟩) hW) (by rfl) (by exact hB.isinstance) bb_isinstance (pa_cons (pv 0) (pa_cons (pe_ty (by exact hB.bool) bb_bool (by rfl)) pa_nil)))))))), ?_⟩
  exact (ss_ret (snd_andV (snd_fn (snd_cons snd_var (snd_cons (snd_c fun _ => .ty _) snd_nil))) (snd_notV (snd_fn (snd_cons snd_var (snd_cons (snd_c fun _ => .ty _) snd_nil))))))
abbrev s_is_within : Stmt := top 2
abbrev N_is_within : List Str := ["thing", "least", "most"]
theorem sc_is_within : FnScope N_is_within ["thing", "least", "most"] (defScope s_is_within) := ⟨rfl, rfl, rfl, by decide +kernel, rfl, by decide +kernel, by decide +kernel⟩
noncomputable def dn_is_within (c : Cf) : SDn :=
    (sRet (eB (bAnd (bOf (eCall (G_is_integer c) (lCons (eVar 0) lNil))) (bOf (eChain dLe dLe (eVar 1) (eVar 0) (eVar 2))))))
noncomputable abbrev G_is_within (c : Cf) : Fn := fnG 3 3 (dn_is_within c)
theorem ok_is_within {c : Cf} {mg : Str → Option Value} {base : Heap} {f : Addr} {fd : FuncData} (hW : Wf c.K c.C) (hB : Bt mg) (hG : Gc c mg) (h_is_integer : Df c mg base "is_integer" 1 (G_is_integer c)) (F : FnP c.K "is_within" s_is_within f fd) (hm : mg "is_within" = some (.ref f)) : Df c mg base "is_within" 2 (G_is_within c) := by
  refine ⟨f, fd, ["thing", "least", "most"], F.ok sc_is_within (fun vs H Q E h => sp_len h) (fun cdv A outer s H vs Q E hr h => ?_), hm, F.kp, F.bindsN fun _ _ _ _ _ _ us hl => match us, hl with | [_, _, _], _ => rfl⟩
  suffices h2 : ∃ t, PSs (cxOf CX0 c.P c.w c.K mg base N_is_within "is_within" (defScope s_is_within) f cdv A outer s H E).nox (defBody s_is_within) t ∧ SndS c (fun _ _ _ _ => False) t (dn_is_within c) by
    obtain ⟨t, h3, h4⟩ := h2
    exact ⟨t, PSs.nox h3, fn_body h4 (by decide) h⟩
  refine ⟨_, (pss_one (ps_ret (pe_and (pe_df h_is_integer (by exact ⟨⟨rfl, rfl, rfl⟩, rfl, rfl⟩) hr (by rfl) (pa_cons (pv 0) pa_nil)) (pe_one (pe_chain (op_leD (c := c)) (op_leD (c := c)) (pv 1) (pv 0) (pv 2)))))), ?_⟩
  exact (ss_ret (snd_andV (snd_call (snd_cons snd_var snd_nil)) (snd_chain snd_var snd_var snd_var)))
abbrev s_is_lot : Stmt := top 3
abbrev N_is_lot : List Str := ["thing", "many", "last", "number"]
theorem sc_is_lot : FnScope N_is_lot ["thing", "many"] (defScope s_is_lot) := ⟨rfl, rfl, rfl, by decide +kernel, rfl, by decide +kernel, by decide +kernel⟩
noncomputable def dn_is_lot (c : Cf) : SDn :=
    (sSeq (sIf (bNot (bOf (eFn (dIsi c) (lCons (eVar 0) (lCons (eC (.ty "tuple")) lNil)))))
    (sRet (eC (.bl false)))
    sNext)
    (sSeq (sAsg 2 (eUn dNeg (eC (.int 1))))
    (sSeq (sFor (lItemsT (eVar 0)) (gd1 3)
    (sSeq (sIf (bNot (bOf (eCall (G_is_within c) (lCons (eVar 3) (lCons (eBin dAdd (eVar 2) (eC (.int 1))) (lCons (eBin dSub (eVar 1) (eC (.int 1))) lNil))))))
    (sRet (eC (.bl false)))
    sNext)
    (sAsg 2 (eVar 3))))
    (sRet (eC (.bl true))))))
noncomputable abbrev G_is_lot (c : Cf) : Fn := fnG 2 4 (dn_is_lot c)
theorem ok_is_lot {c : Cf} {mg : Str → Option Value} {base : Heap} {f : Addr} {fd : FuncData} (hW : Wf c.K c.C) (hB : Bt mg) (hG : Gc c mg) (h_is_within : Df c mg base "is_within" 2 (G_is_within c)) (F : FnP c.K "is_lot" s_is_lot f fd) (hm : mg "is_lot" = some (.ref f)) : Df c mg base "is_lot" 3 (G_is_lot c) := by
  refine ⟨f, fd, ["thing", "many"], F.ok sc_is_lot (fun vs H Q E h => sp_len h) (fun cdv A outer s H vs Q E hr h => ?_), hm, F.kp, F.bindsN fun _ _ _ _ _ _ us hl => match us, hl with | [_, _], _ => rfl⟩
  suffices h2 : ∃ t, PSs (cxOf CX0 c.P c.w c.K mg base N_is_lot "is_lot" (defScope s_is_lot) f cdv A outer s H E).nox (defBody s_is_lot) t ∧ SndS c (fun _ _ _ _ => False) t (dn_is_lot c) by
    obtain ⟨t, h3, h4⟩ := h2
    exact ⟨t, PSs.nox h3, fn_body h4 (by decide) h⟩
  refine ⟨_, (pss_cons (ps_if (pt_not (pt_val (pe_callB (call_isiD (by exact ⟨rfl, rfl, rfl⟩) hW) (by rfl) (by exact hB.isinstance) bb_isinstance (pa_cons (pv 0) (pa_cons (pe_ty (by exact hB.tuple) bb_tuple (by rfl)) pa_nil))))) (pss_one (ps_ret pe_bl)) pss_nil) (pss_cons (ps_set (i := 2) sc_is_lot.nd rfl (Or.inl rfl) (pe_un (un_negD (c := c)) pe_int)) (pss_cons (ps_for PassesOwn.never rfl (pi_tup (pv 0)) (pg_name (i := 3) sc_is_lot.nd rfl (Or.inl rfl)) (pss_cons (ps_if (pt_not (pt_val (pe_df h_is_within (by exact ⟨⟨rfl, rfl, rfl⟩, rfl, rfl⟩) hr (by rfl) (pa_cons (pv 3) (pa_cons (pe_op (op_addD (by exact ⟨rfl, rfl, rfl⟩)) (pv 2) pe_int) (pa_cons (pe_op (op_subD (c := c)) (pv 1) pe_int) pa_nil)))))) (pss_one (ps_ret pe_bl)) pss_nil) (pss_one (ps_set (i := 2) sc_is_lot.nd rfl (Or.inl rfl) (pv 3))))) (pss_one (ps_ret pe_bl))))), ?_⟩
  exact (ss_seq (ss_if (st_not (st_val (snd_fn (snd_cons snd_var (snd_cons (snd_c fun _ => .ty _) snd_nil))))) (ss_ret (snd_c fun _ => .bl _)) ss_next) (ss_seq (ss_asg (i := 2) (snd_un (snd_c fun _ => .int _))) (ss_seq (ss_for (si_tup snd_var) sg_name (ss_seq (ss_if (st_not (st_val (snd_call (snd_cons snd_var (snd_cons (snd_bin snd_var (snd_c fun _ => .int _)) (snd_cons (snd_bin snd_var (snd_c fun _ => .int _)) snd_nil)))))) (ss_ret (snd_c fun _ => .bl _)) ss_next) (ss_asg (i := 2) snd_var))) (ss_ret (snd_c fun _ => .bl _)))))
abbrev s_is_pair : Stmt := top 4
abbrev N_is_pair : List Str := ["thing"]
theorem sc_is_pair : FnScope N_is_pair ["thing"] (defScope s_is_pair) := ⟨rfl, rfl, rfl, by decide +kernel, rfl, by decide +kernel, by decide +kernel⟩
noncomputable def dn_is_pair (c : Cf) : SDn :=
    (sRet (eB (bAnd (bOf (eFn (dIsi c) (lCons (eVar 0) (lCons (eC (.ty "tuple")) lNil)))) (bOf (eBin dEqX (eFn dLen (lCons (eVar 0) lNil)) (eC (.int 2)))))))
noncomputable abbrev G_is_pair (c : Cf) : Fn := fnG 1 1 (dn_is_pair c)
theorem ok_is_pair {c : Cf} {mg : Str → Option Value} {base : Heap} {f : Addr} {fd : FuncData} (hW : Wf c.K c.C) (hB : Bt mg) (hG : Gc c mg) (F : FnP c.K "is_pair" s_is_pair f fd) (hm : mg "is_pair" = some (.ref f)) : Df c mg base "is_pair" 1 (G_is_pair c) := by
  refine ⟨f, fd, ["thing"], F.ok sc_is_pair (fun vs H Q E h => sp_len h) (fun cdv A outer s H vs Q E hr h => ?_), hm, F.kp, F.bindsN fun _ _ _ _ _ _ us hl => match us, hl with | [_], _ => rfl⟩
  suffices h2 : ∃ t, PSs (cxOf CX0 c.P c.w c.K mg base N_is_pair "is_pair" (defScope s_is_pair) f cdv A outer s H E).nox (defBody s_is_pair) t ∧ SndS c (fun _ _ _ _ => False) t (dn_is_pair c) by
    obtain ⟨t, h3, h4⟩ := h2
    exact ⟨t, PSs.nox h3, fn_body h4 (by decide) h⟩
  refine ⟨_, (pss_one (ps_ret (pe_and (pe_callB (call_isiD (by exact ⟨rfl, rfl, rfl⟩) hW) (by rfl) (by exact hB.isinstance) bb_isinstance (pa_cons (pv 0) (pa_cons (pe_ty (by exact hB.tuple) bb_tuple (by rfl)) pa_nil))) (pe_one (pe_cmpR (op_eqX (by exact ⟨rfl, rfl, rfl⟩) (by exact hu64 hr)) (pe_callB (call_lenD (by exact ⟨rfl, rfl, rfl⟩)) (by rfl) (by exact hB.len) bb_len (pa_cons (pv 0) pa_nil)) pe_int (nomark _)))))), ?_⟩
  exact (ss_ret (snd_andV (snd_fn (snd_cons snd_var (snd_cons (snd_c fun _ => .ty _) snd_nil))) (snd_bin (snd_fn (snd_cons snd_var snd_nil)) (snd_c fun _ => .int _))))
abbrev s_divisor : Stmt := top 15
abbrev N_divisor : List Str := ["one", "other"]
theorem sc_divisor : FnScope N_divisor ["one", "other"] (defScope s_divisor) := ⟨rfl, rfl, rfl, by decide +kernel, rfl, by decide +kernel, by decide +kernel⟩
noncomputable def dn_divisor (c : Cf) : SDn :=
    (sSeq (sWhile (bOf (eBin dGt (eVar 1) (eC (.int 0)))) (sPar 0 1 (eVar 1) (eBin dMod (eVar 0) (eVar 1))))
    (sRet (eVar 0)))
noncomputable abbrev G_divisor (c : Cf) : Fn := fnG 2 2 (dn_divisor c)
theorem ok_divisor {c : Cf} {mg : Str → Option Value} {base : Heap} {f : Addr} {fd : FuncData} (hW : Wf c.K c.C) (hB : Bt mg) (hG : Gc c mg) (F : FnP c.K "divisor" s_divisor f fd) (hm : mg "divisor" = some (.ref f)) : Df c mg base "divisor" 1 (G_divisor c) := by
  refine ⟨f, fd, ["one", "other"], F.ok sc_divisor (fun vs H Q E h => sp_len h) (fun cdv A outer s H vs Q E hr h => ?_), hm, F.kp, F.bindsN fun _ _ _ _ _ _ us hl => match us, hl with | [_, _], _ => rfl⟩
  suffices h2 : ∃ t, PSs (cxOf CX0 c.P c.w c.K mg base N_divisor "divisor" (defScope s_divisor) f cdv A outer s H E).nox (defBody s_divisor) t ∧ SndS c (fun _ _ _ _ => False) t (dn_divisor c) by
    obtain ⟨t, h3, h4⟩ := h2
    exact ⟨t, PSs.nox h3, fn_body h4 (by decide) h⟩
  refine ⟨_, (pss_cons (ps_while PassesOwn.never (pt_cmpR (op_gtD (c := c)) (pv 1) pe_int (nomark _)) (pss_one (ps_par (i := 0) (j := 1) rfl sc_divisor.nd rfl rfl (by decide) rfl rfl (pa_cons (pv 1) (pa_cons (pe_op (op_modD (c := c)) (pv 0) (pv 1)) pa_nil)) rfl))) (pss_one (ps_ret (pv 0)))), ?_⟩
  exact (ss_seq (ss_while (st_test (snd_bin snd_var (snd_c fun _ => .int _))) (ss_par (i := 0) (j := 1) snd_var (snd_bin snd_var snd_var))) (ss_ret snd_var))
abbrev s_lowest : Stmt := top 16
abbrev N_lowest : List Str := ["top", "bottom", "common"]
theorem sc_lowest : FnScope N_lowest ["top", "bottom"] (defScope s_lowest) := ⟨rfl, rfl, rfl, by decide +kernel, rfl, by decide +kernel, by decide +kernel⟩
noncomputable def dn_lowest (c : Cf) : SDn :=
    (sSeq (sAsg 2 (eCall (G_divisor c) (lCons (eFn dAbs (lCons (eVar 0) lNil)) (lCons (eVar 1) lNil))))
    (sRet (eTup (lCons (eBin dDiv (eVar 0) (eVar 2)) (lCons (eBin dDiv (eVar 1) (eVar 2)) lNil)))))
noncomputable abbrev G_lowest (c : Cf) : Fn := fnG 2 3 (dn_lowest c)
theorem ok_lowest {c : Cf} {mg : Str → Option Value} {base : Heap} {f : Addr} {fd : FuncData} (hW : Wf c.K c.C) (hB : Bt mg) (hG : Gc c mg) (h_divisor : Df c mg base "divisor" 1 (G_divisor c)) (F : FnP c.K "lowest" s_lowest f fd) (hm : mg "lowest" = some (.ref f)) : Df c mg base "lowest" 2 (G_lowest c) := by
  refine ⟨f, fd, ["top", "bottom"], F.ok sc_lowest (fun vs H Q E h => sp_len h) (fun cdv A outer s H vs Q E hr h => ?_), hm, F.kp, F.bindsN fun _ _ _ _ _ _ us hl => match us, hl with | [_, _], _ => rfl⟩
  suffices h2 : ∃ t, PSs (cxOf CX0 c.P c.w c.K mg base N_lowest "lowest" (defScope s_lowest) f cdv A outer s H E).nox (defBody s_lowest) t ∧ SndS c (fun _ _ _ _ => False) t (dn_lowest c) by
    obtain ⟨t, h3, h4⟩ := h2
    exact ⟨t, PSs.nox h3, fn_body h4 (by decide) h⟩
  refine ⟨_, (pss_cons (ps_set (i := 2) sc_lowest.nd rfl (Or.inl rfl) (pe_df h_divisor (by exact ⟨⟨rfl, rfl, rfl⟩, rfl, rfl⟩) hr (by rfl) (pa_cons (pe_callB (call_absD (c := c)) (by rfl) (by exact hB.abs) bb_abs (pa_cons (pv 0) pa_nil)) (pa_cons (pv 1) pa_nil)))) (pss_one (ps_ret (pe_tup (pa_cons (pe_op (op_divD (c := c)) (pv 0) (pv 2)) (pa_cons (pe_op (op_divD (c := c)) (pv 1) (pv 2)) pa_nil)))))), ?_⟩
  exact (ss_seq (ss_asg (i := 2) (snd_call (snd_cons (snd_fn (snd_cons snd_var snd_nil)) (snd_cons snd_var snd_nil)))) (ss_ret (snd_tup (snd_cons (snd_bin snd_var snd_var) (snd_cons (snd_bin snd_var snd_var) snd_nil)) (llen_cons (llen_cons llen_nil)) (by decide))))
abbrev s_is_fraction : Stmt := top 17
abbrev N_is_fraction : List Str := ["thing"]
theorem sc_is_fraction : FnScope N_is_fraction ["thing"] (defScope s_is_fraction) := ⟨rfl, rfl, rfl, by decide +kernel, rfl, by decide +kernel, by decide +kernel⟩
noncomputable def dn_is_fraction (c : Cf) : SDn :=
    (sSeq (sIf (bOr (bNot (bOf (eCall (G_is_pair c) (lCons (eVar 0) lNil)))) (bOr (bNot (bOf (eCall (G_is_integer c) (lCons (eBin dIx (eVar 0) (eC (.int 0))) lNil)))) (bNot (bOf (eCall (G_is_integer c) (lCons (eBin dIx (eVar 0) (eC (.int 1))) lNil))))))
    (sRet (eC (.bl false)))
    sNext)
    (sRet (eB (bAnd (bOf (eBin dGt (eBin dIx (eVar 0) (eC (.int 1))) (eC (.int 0)))) (bOf (eBin dEqX (eCall (G_divisor c) (lCons (eFn dAbs (lCons (eBin dIx (eVar 0) (eC (.int 0))) lNil)) (lCons (eBin dIx (eVar 0) (eC (.int 1))) lNil))) (eC (.int 1))))))))
noncomputable abbrev G_is_fraction (c : Cf) : Fn := fnG 1 1 (dn_is_fraction c)
theorem ok_is_fraction {c : Cf} {mg : Str → Option Value} {base : Heap} {f : Addr} {fd : FuncData} (hW : Wf c.K c.C) (hB : Bt mg) (hG : Gc c mg) (h_is_pair : Df c mg base "is_pair" 1 (G_is_pair c)) (h_is_integer : Df c mg base "is_integer" 1 (G_is_integer c)) (h_divisor : Df c mg base "divisor" 1 (G_divisor c)) (F : FnP c.K "is_fraction" s_is_fraction f fd) (hm : mg "is_fraction" = some (.ref f)) : Df c mg base "is_fraction" 2 (G_is_fraction c) := by
  refine ⟨f, fd, ["thing"], F.ok sc_is_fraction (fun vs H Q E h => sp_len h) (fun cdv A outer s H vs Q E hr h => ?_), hm, F.kp, F.bindsN fun _ _ _ _ _ _ us hl => match us, hl with | [_], _ => rfl⟩
  suffices h2 : ∃ t, PSs (cxOf CX0 c.P c.w c.K mg base N_is_fraction "is_fraction" (defScope s_is_fraction) f cdv A outer s H E).nox (defBody s_is_fraction) t ∧ SndS c (fun _ _ _ _ => False) t (dn_is_fraction c) by
    obtain ⟨t, h3, h4⟩ := h2
    exact ⟨t, PSs.nox h3, fn_body h4 (by decide) h⟩
  refine ⟨_, (pss_cons (ps_if ((pw_or (pt_not (pt_val (pe_df h_is_pair (by exact ⟨⟨rfl, rfl, rfl⟩, rfl, rfl⟩) hr (by rfl) (pa_cons (pv 0) pa_nil)))) (pw_or (pt_not (pt_val (pe_df h_is_integer (by exact ⟨⟨rfl, rfl, rfl⟩, rfl, rfl⟩) hr (by rfl) (pa_cons (pe_ix (ix_D (by exact ⟨rfl, rfl, rfl⟩)) (pv 0) pe_int (fun _ _ => rfl)) pa_nil)))) (pw_or1 (pt_not (pt_val (pe_df h_is_integer (by exact ⟨⟨rfl, rfl, rfl⟩, rfl, rfl⟩) hr (by rfl) (pa_cons (pe_ix (ix_D (by exact ⟨rfl, rfl, rfl⟩)) (pv 0) pe_int (fun _ _ => rfl)) pa_nil)))))))).pt (pss_one (ps_ret pe_bl)) pss_nil) (pss_one (ps_ret (pe_and (pe_cmpR (op_gtD (c := c)) (pe_ix (ix_D (by exact ⟨rfl, rfl, rfl⟩)) (pv 0) pe_int (fun _ _ => rfl)) pe_int (nomark _)) (pe_one (pe_cmpR (op_eqX (by exact ⟨rfl, rfl, rfl⟩) (by exact hu64 hr)) (pe_df h_divisor (by exact ⟨⟨rfl, rfl, rfl⟩, rfl, rfl⟩) hr (by rfl) (pa_cons (pe_callB (call_absD (c := c)) (by rfl) (by exact hB.abs) bb_abs (pa_cons (pe_ix (ix_D (by exact ⟨rfl, rfl, rfl⟩)) (pv 0) pe_int (fun _ _ => rfl)) pa_nil)) (pa_cons (pe_ix (ix_D (by exact ⟨rfl, rfl, rfl⟩)) (pv 0) pe_int (fun _ _ => rfl)) pa_nil))) pe_int (nomark _))))))), ?_⟩
  exact (ss_seq (ss_if (st_or (st_not (st_val (snd_call (snd_cons snd_var snd_nil)))) (st_or (st_not (st_val (snd_call (snd_cons (snd_bin snd_var (snd_c fun _ => .int _)) snd_nil)))) (st_not (st_val (snd_call (snd_cons (snd_bin snd_var (snd_c fun _ => .int _)) snd_nil)))))) (ss_ret (snd_c fun _ => .bl _)) ss_next) (ss_ret (snd_andV (snd_bin (snd_bin snd_var (snd_c fun _ => .int _)) (snd_c fun _ => .int _)) (snd_bin (snd_call (snd_cons (snd_fn (snd_cons (snd_bin snd_var (snd_c fun _ => .int _)) snd_nil)) (snd_cons (snd_bin snd_var (snd_c fun _ => .int _)) snd_nil))) (snd_c fun _ => .int _)))))
abbrev s_plus : Stmt := top 18
abbrev N_plus : List Str := ["one", "other"]
theorem sc_plus : FnScope N_plus ["one", "other"] (defScope s_plus) := ⟨rfl, rfl, rfl, by decide +kernel, rfl, by decide +kernel, by decide +kernel⟩
noncomputable def dn_plus (c : Cf) : SDn :=
    (sRet (eCall (G_lowest c) (lCons (eBin dAdd (eBin dMul (eBin dIx (eVar 0) (eC (.int 0))) (eBin dIx (eVar 1) (eC (.int 1)))) (eBin dMul (eBin dIx (eVar 1) (eC (.int 0))) (eBin dIx (eVar 0) (eC (.int 1))))) (lCons (eBin dMul (eBin dIx (eVar 0) (eC (.int 1))) (eBin dIx (eVar 1) (eC (.int 1)))) lNil))))
noncomputable abbrev G_plus (c : Cf) : Fn := fnG 2 2 (dn_plus c)
theorem ok_plus {c : Cf} {mg : Str → Option Value} {base : Heap} {f : Addr} {fd : FuncData} (hW : Wf c.K c.C) (hB : Bt mg) (hG : Gc c mg) (h_lowest : Df c mg base "lowest" 2 (G_lowest c)) (F : FnP c.K "plus" s_plus f fd) (hm : mg "plus" = some (.ref f)) : Df c mg base "plus" 3 (G_plus c) := by
  refine ⟨f, fd, ["one", "other"], F.ok sc_plus (fun vs H Q E h => sp_len h) (fun cdv A outer s H vs Q E hr h => ?_), hm, F.kp, F.bindsN fun _ _ _ _ _ _ us hl => match us, hl with | [_, _], _ => rfl⟩
  suffices h2 : ∃ t, PSs (cxOf CX0 c.P c.w c.K mg base N_plus "plus" (defScope s_plus) f cdv A outer s H E).nox (defBody s_plus) t ∧ SndS c (fun _ _ _ _ => False) t (dn_plus c) by
    obtain ⟨t, h3, h4⟩ := h2
    exact ⟨t, PSs.nox h3, fn_body h4 (by decide) h⟩
  refine ⟨_, (pss_one (ps_ret (pe_df h_lowest (by exact ⟨⟨rfl, rfl, rfl⟩, rfl, rfl⟩) hr (by rfl) (pa_cons (pe_op (op_addD (by exact ⟨rfl, rfl, rfl⟩)) (pe_op (op_mulD (c := c)) (pe_ix (ix_D (by exact ⟨rfl, rfl, rfl⟩)) (pv 0) pe_int (fun _ _ => rfl)) (pe_ix (ix_D (by exact ⟨rfl, rfl, rfl⟩)) (pv 1) pe_int (fun _ _ => rfl))) (pe_op (op_mulD (c := c)) (pe_ix (ix_D (by exact ⟨rfl, rfl, rfl⟩)) (pv 1) pe_int (fun _ _ => rfl)) (pe_ix (ix_D (by exact ⟨rfl, rfl, rfl⟩)) (pv 0) pe_int (fun _ _ => rfl)))) (pa_cons (pe_op (op_mulD (c := c)) (pe_ix (ix_D (by exact ⟨rfl, rfl, rfl⟩)) (pv 0) pe_int (fun _ _ => rfl)) (pe_ix (ix_D (by exact ⟨rfl, rfl, rfl⟩)) (pv 1) pe_int (fun _ _ => rfl))) pa_nil))))), ?_⟩
  exact (ss_ret (snd_call (snd_cons (snd_bin (snd_bin (snd_bin snd_var (snd_c fun _ => .int _)) (snd_bin snd_var (snd_c fun _ => .int _))) (snd_bin (snd_bin snd_var (snd_c fun _ => .int _)) (snd_bin snd_var (snd_c fun _ => .int _)))) (snd_cons (snd_bin (snd_bin snd_var (snd_c fun _ => .int _)) (snd_bin snd_var (snd_c fun _ => .int _))) snd_nil))))
abbrev s_over : Stmt := top 19
abbrev N_over : List Str := ["one", "other"]
theorem sc_over : FnScope N_over ["one", "other"] (defScope s_over) := ⟨rfl, rfl, rfl, by decide +kernel, rfl, by decide +kernel, by decide +kernel⟩
noncomputable def dn_over (c : Cf) : SDn :=
    (sRet (eCall (G_lowest c) (lCons (eBin dMul (eBin dIx (eVar 0) (eC (.int 0))) (eBin dIx (eVar 1) (eC (.int 1)))) (lCons (eBin dMul (eBin dIx (eVar 0) (eC (.int 1))) (eBin dIx (eVar 1) (eC (.int 0)))) lNil))))
noncomputable abbrev G_over (c : Cf) : Fn := fnG 2 2 (dn_over c)
theorem ok_over {c : Cf} {mg : Str → Option Value} {base : Heap} {f : Addr} {fd : FuncData} (hW : Wf c.K c.C) (hB : Bt mg) (hG : Gc c mg) (h_lowest : Df c mg base "lowest" 2 (G_lowest c)) (F : FnP c.K "over" s_over f fd) (hm : mg "over" = some (.ref f)) : Df c mg base "over" 3 (G_over c) := by
  refine ⟨f, fd, ["one", "other"], F.ok sc_over (fun vs H Q E h => sp_len h) (fun cdv A outer s H vs Q E hr h => ?_), hm, F.kp, F.bindsN fun _ _ _ _ _ _ us hl => match us, hl with | [_, _], _ => rfl⟩
  suffices h2 : ∃ t, PSs (cxOf CX0 c.P c.w c.K mg base N_over "over" (defScope s_over) f cdv A outer s H E).nox (defBody s_over) t ∧ SndS c (fun _ _ _ _ => False) t (dn_over c) by
    obtain ⟨t, h3, h4⟩ := h2
    exact ⟨t, PSs.nox h3, fn_body h4 (by decide) h⟩
  refine ⟨_, (pss_one (ps_ret (pe_df h_lowest (by exact ⟨⟨rfl, rfl, rfl⟩, rfl, rfl⟩) hr (by rfl) (pa_cons (pe_op (op_mulD (c := c)) (pe_ix (ix_D (by exact ⟨rfl, rfl, rfl⟩)) (pv 0) pe_int (fun _ _ => rfl)) (pe_ix (ix_D (by exact ⟨rfl, rfl, rfl⟩)) (pv 1) pe_int (fun _ _ => rfl))) (pa_cons (pe_op (op_mulD (c := c)) (pe_ix (ix_D (by exact ⟨rfl, rfl, rfl⟩)) (pv 0) pe_int (fun _ _ => rfl)) (pe_ix (ix_D (by exact ⟨rfl, rfl, rfl⟩)) (pv 1) pe_int (fun _ _ => rfl))) pa_nil))))), ?_⟩
  exact (ss_ret (snd_call (snd_cons (snd_bin (snd_bin snd_var (snd_c fun _ => .int _)) (snd_bin snd_var (snd_c fun _ => .int _))) (snd_cons (snd_bin (snd_bin snd_var (snd_c fun _ => .int _)) (snd_bin snd_var (snd_c fun _ => .int _))) snd_nil))))
abbrev s_add_all : Stmt := top 20
abbrev N_add_all : List Str := ["some", "part", "found"]
theorem sc_add_all : FnScope N_add_all ["some"] (defScope s_add_all) := ⟨rfl, rfl, rfl, by decide +kernel, rfl, by decide +kernel, by decide +kernel⟩
noncomputable def dn_add_all (c : Cf) : SDn :=
    (sSeq (sAsg 2 (eC (tupI [0, 1])))
    (sSeq (sFor (lItemsL (eVar 0)) (gd1 1)
    (sAsg 2 (eCall (G_plus c) (lCons (eVar 2) (lCons (eVar 1) lNil)))))
    (sRet (eVar 2))))
noncomputable abbrev G_add_all (c : Cf) : Fn := fnG 1 3 (dn_add_all c)
theorem ok_add_all {c : Cf} {mg : Str → Option Value} {base : Heap} {f : Addr} {fd : FuncData} (hW : Wf c.K c.C) (hB : Bt mg) (hG : Gc c mg) (h_plus : Df c mg base "plus" 3 (G_plus c)) (F : FnP c.K "add_all" s_add_all f fd) (hm : mg "add_all" = some (.ref f)) : Df c mg base "add_all" 4 (G_add_all c) := by
  refine ⟨f, fd, ["some"], F.ok sc_add_all (fun vs H Q E h => sp_len h) (fun cdv A outer s H vs Q E hr h => ?_), hm, F.kp, F.bindsN fun _ _ _ _ _ _ us hl => match us, hl with | [_], _ => rfl⟩
  suffices h2 : ∃ t, PSs (cxOf CX0 c.P c.w c.K mg base N_add_all "add_all" (defScope s_add_all) f cdv A outer s H E).nox (defBody s_add_all) t ∧ SndS c (fun _ _ _ _ => False) t (dn_add_all c) by
    obtain ⟨t, h3, h4⟩ := h2
    exact ⟨t, PSs.nox h3, fn_body h4 (by decide) h⟩
  obtain ⟨a_zero, hzero⟩ := hG.zero
  refine ⟨_, (pss_cons (ps_set (i := 2) sc_add_all.nd rfl (Or.inl rfl) (pe_gr (by exact ⟨⟨rfl, rfl, rfl⟩, rfl, rfl⟩) hzero.1 (by rfl))) (pss_cons (ps_for PassesOwn.never rfl (pi_list (pv 0)) (pg_name (i := 1) sc_add_all.nd rfl (Or.inl rfl)) (pss_one (ps_set (i := 2) sc_add_all.nd rfl (Or.inl rfl) (pe_df h_plus (by exact ⟨⟨rfl, rfl, rfl⟩, rfl, rfl⟩) hr (by rfl) (pa_cons (pv 2) (pa_cons (pv 1) pa_nil)))))) (pss_one (ps_ret (pv 2))))), ?_⟩
  exact (ss_seq (ss_asg (i := 2) (snd_c hzero.2)) (ss_seq (ss_for (si_list snd_var) sg_name (ss_asg (i := 2) (snd_call (snd_cons snd_var (snd_cons snd_var snd_nil))))) (ss_ret snd_var)))
end Dl
namespace Dl
open PySem PySem.Spec PyProof.Rows L2
abbrev s_is_sizes : Stmt := top 26
abbrev N_is_sizes : List Str := ["thing", "size", "product"]
theorem sc_is_sizes : FnScope N_is_sizes ["thing"] (defScope s_is_sizes) := ⟨rfl, rfl, rfl, by decide +kernel, rfl, by decide +kernel, by decide +kernel⟩
noncomputable def dn_is_sizes (c : Cf) : SDn :=
    (sSeq (sIf (bOr (bNot (bOf (eFn (dIsi c) (lCons (eVar 0) (lCons (eC (.ty "tuple")) lNil))))) (bNot (bOf (eChain dLe dLe (eC (.int 1)) (eFn dLen (lCons (eVar 0) lNil)) (eC (.int (4)))))))
    (sRet (eC (.bl false)))
    sNext)
    (sSeq (sIf (bNot (bOf (eFn dAll (lCons (eComp (lItemsT (eVar 0)) [1] (gd1 1) bYes (eCall (G_is_within c) (lCons (eVar 1) (lCons (eC (.int 2)) (lCons (eC (.int (4))) lNil))))) lNil))))
    (sRet (eC (.bl false)))
    sNext)
    (sSeq (sAsg 2 (eC (.int 1)))
    (sSeq (sFor (lItemsT (eVar 0)) (gd1 1)
    (sMulA 2 (eVar 1)))
    (sRet (eBin dLe (eVar 2) (eC (.int (64)))))))))
noncomputable abbrev G_is_sizes (c : Cf) : Fn := fnG 1 3 (dn_is_sizes c)
theorem ok_is_sizes {c : Cf} {mg : Str → Option Value} {base : Heap} {f : Addr} {fd : FuncData} (hW : Wf c.K c.C) (hB : Bt mg) (hG : Gc c mg) (h_is_within : Df c mg base "is_within" 2 (G_is_within c)) (F : FnP c.K "is_sizes" s_is_sizes f fd) (hm : mg "is_sizes" = some (.ref f)) : Df c mg base "is_sizes" 3 (G_is_sizes c) := by
  refine ⟨f, fd, ["thing"], F.ok sc_is_sizes (fun vs H Q E h => sp_len h) (fun cdv A outer s H vs Q E hr h => ?_), hm, F.kp, F.bindsN fun _ _ _ _ _ _ us hl => match us, hl with | [_], _ => rfl⟩
  suffices h2 : ∃ t, PSs (cxOf CX0 c.P c.w c.K mg base N_is_sizes "is_sizes" (defScope s_is_sizes) f cdv A outer s H E).nox (defBody s_is_sizes) t ∧ SndS c (fun _ _ _ _ => False) t (dn_is_sizes c) by
    obtain ⟨t, h3, h4⟩ := h2
    exact ⟨t, PSs.nox h3, fn_body h4 (by decide) h⟩
  refine ⟨_, (pss_cons (ps_if ((pw_or (pt_not (pt_val (pe_callB (call_isiD (by exact ⟨rfl, rfl, rfl⟩) hW) (by rfl) (by exact hB.isinstance) bb_isinstance (pa_cons (pv 0) (pa_cons (pe_ty (by exact hB.tuple) bb_tuple (by rfl)) pa_nil))))) (pw_or1 (pt_not (pt_chain (op_leD (c := c)) (op_leD (c := c)) pe_int (pe_callB (call_lenD (by exact ⟨rfl, rfl, rfl⟩)) (by rfl) (by exact hB.len) bb_len (pa_cons (pv 0) pa_nil)) (pe_gi (by exact ⟨⟨rfl, rfl, rfl⟩, rfl, rfl⟩) hG.cols (by rfl))))))).pt (pss_one (ps_ret pe_bl)) pss_nil) (pss_cons (ps_if (pt_not (pt_val (pe_callB (cr_allD (by exact ⟨rfl, rfl, rfl⟩) rfl) (by rfl) (by exact hB.all) bb_all (pa_cons (pe_lc (own := [("size", 1)]) (g := (gName 1)) rfl sc_is_sizes.nd (pi_tup (pv 0)) (blkOk_by (N := N_is_sizes) (sc := defScope s_is_sizes) (by decide +kernel)) (fun _ _ _ _ _ => (pg_name (i := 1) sc_is_sizes.nd rfl (Or.inl rfl))) (fun _ _ _ _ _ => pts_nil) (fun _ _ _ _ _ => (pe_df h_is_within (by exact ⟨⟨rfl, rfl, rfl⟩, rfl, rfl⟩) hr (by rfl) (pa_cons (pv 1) (pa_cons pe_int (pa_cons (pe_gi (by exact ⟨⟨rfl, rfl, rfl⟩, rfl, rfl⟩) hG.worths (by rfl)) pa_nil)))))) pa_nil)))) (pss_one (ps_ret pe_bl)) pss_nil) (pss_cons (ps_set (i := 2) sc_is_sizes.nd rfl (Or.inl rfl) pe_int) (pss_cons (ps_for PassesOwn.never rfl (pi_tup (pv 0)) (pg_name (i := 1) sc_is_sizes.nd rfl (Or.inl rfl)) (pss_one (ps_aug (i := 2) sc_is_sizes.nd rfl (Or.inl rfl) (pv 1) iop_mul))) (pss_one (ps_ret (pe_cmpR (op_leD (c := c)) (pv 2) (pe_gi (by exact ⟨⟨rfl, rfl, rfl⟩, rfl, rfl⟩) hG.contents (by rfl)) (nomark _)))))))), ?_⟩
  exact (ss_seq (ss_if (st_or (st_not (st_val (snd_fn (snd_cons snd_var (snd_cons (snd_c fun _ => .ty _) snd_nil))))) (st_not (st_test (snd_chain (snd_c fun _ => .int _) (snd_fn (snd_cons snd_var snd_nil)) (snd_c fun _ => .int _))))) (ss_ret (snd_c fun _ => .bl _)) ss_next) (ss_seq (ss_if (st_not (st_val (snd_fn (snd_cons (snd_comp (si_tup snd_var) sg_name st_yes (snd_call (snd_cons snd_var (snd_cons (snd_c fun _ => .int _) (snd_cons (snd_c fun _ => .int _) snd_nil))))) snd_nil)))) (ss_ret (snd_c fun _ => .bl _)) ss_next) (ss_seq (ss_asg (i := 2) (snd_c fun _ => .int _)) (ss_seq (ss_for (si_tup snd_var) sg_name (ss_mulA (i := 2) snd_var)) (ss_ret (snd_bin snd_var (snd_c fun _ => .int _)))))))
abbrev s_is_content : Stmt := top 27
abbrev N_is_content : List Str := ["sizes", "thing", "size", "worth"]
theorem sc_is_content : FnScope N_is_content ["sizes", "thing"] (defScope s_is_content) := ⟨rfl, rfl, rfl, by decide +kernel, rfl, by decide +kernel, by decide +kernel⟩
noncomputable def dn_is_content (c : Cf) : SDn :=
    (sSeq (sIf (bOr (bNot (bOf (eFn (dIsi c) (lCons (eVar 1) (lCons (eC (.ty "tuple")) lNil))))) (bOf (eBin dNeU (eFn dLen (lCons (eVar 1) lNil)) (eFn dLen (lCons (eVar 0) lNil)))))
    (sRet (eC (.bl false)))
    sNext)
    (sRet (eFn dAll (lCons (eComp (lZipT (eVar 1) (eVar 0)) [3, 2] (gd2 3 2) bYes (eCall (G_is_within c) (lCons (eVar 3) (lCons (eC (.int 0)) (lCons (eBin dSub (eVar 2) (eC (.int 1))) lNil))))) lNil))))
noncomputable abbrev G_is_content (c : Cf) : Fn := fnG 2 4 (dn_is_content c)
theorem ok_is_content {c : Cf} {mg : Str → Option Value} {base : Heap} {f : Addr} {fd : FuncData} (hW : Wf c.K c.C) (hB : Bt mg) (hG : Gc c mg) (h_is_within : Df c mg base "is_within" 2 (G_is_within c)) (F : FnP c.K "is_content" s_is_content f fd) (hm : mg "is_content" = some (.ref f)) : Df c mg base "is_content" 3 (G_is_content c) := by
  refine ⟨f, fd, ["sizes", "thing"], F.ok sc_is_content (fun vs H Q E h => sp_len h) (fun cdv A outer s H vs Q E hr h => ?_), hm, F.kp, F.bindsN fun _ _ _ _ _ _ us hl => match us, hl with | [_, _], _ => rfl⟩
  suffices h2 : ∃ t, PSs (cxOf CX0 c.P c.w c.K mg base N_is_content "is_content" (defScope s_is_content) f cdv A outer s H E).nox (defBody s_is_content) t ∧ SndS c (fun _ _ _ _ => False) t (dn_is_content c) by
    obtain ⟨t, h3, h4⟩ := h2
    exact ⟨t, PSs.nox h3, fn_body h4 (by decide) h⟩
  refine ⟨_, (pss_cons (ps_if ((pw_or (pt_not (pt_val (pe_callB (call_isiD (by exact ⟨rfl, rfl, rfl⟩) hW) (by rfl) (by exact hB.isinstance) bb_isinstance (pa_cons (pv 1) (pa_cons (pe_ty (by exact hB.tuple) bb_tuple (by rfl)) pa_nil))))) (pw_or1 (pt_cmpR (op_neU (by exact ⟨rfl, rfl, rfl⟩) (by exact hu80 hr)) (pe_callB (call_lenD (by exact ⟨rfl, rfl, rfl⟩)) (by rfl) (by exact hB.len) bb_len (pa_cons (pv 1) pa_nil)) (pe_callB (call_lenD (by exact ⟨rfl, rfl, rfl⟩)) (by rfl) (by exact hB.len) bb_len (pa_cons (pv 0) pa_nil)) (nomark _))))).pt (pss_one (ps_ret pe_bl)) pss_nil) (pss_one (ps_ret (pe_callB (cr_allD (by exact ⟨rfl, rfl, rfl⟩) rfl) (by rfl) (by exact hB.all) bb_all (pa_cons (pe_lc (own := [("worth", 3), ("size", 2)]) (g := (gTup c.K 2 (gCons (gName 3) (gCons (gName 2) gNil)))) rfl sc_is_content.nd (RZ.pi_zipA (by rfl) (by exact hB.zip) (pa_cons (pv 1) (pa_cons (pv 0) pa_nil))) (blkOk_by (N := N_is_content) (sc := defScope s_is_content) (by decide +kernel)) (fun _ _ _ _ _ => (pg_tup rfl (pgs_cons (pg_name (i := 3) sc_is_content.nd rfl (Or.inl rfl)) (pgs_cons (pg_name (i := 2) sc_is_content.nd rfl (Or.inl rfl)) pgs_nil)))) (fun _ _ _ _ _ => pts_nil) (fun _ _ _ _ _ => (pe_df h_is_within (by exact ⟨⟨rfl, rfl, rfl⟩, rfl, rfl⟩) hr (by rfl) (pa_cons (pv 3) (pa_cons pe_int (pa_cons (pe_op (op_subD (c := c)) (pv 2) pe_int) pa_nil)))))) pa_nil))))), ?_⟩
  exact (ss_seq (ss_if (st_or (st_not (st_val (snd_fn (snd_cons snd_var (snd_cons (snd_c fun _ => .ty _) snd_nil))))) (st_test (snd_bin (snd_fn (snd_cons snd_var snd_nil)) (snd_fn (snd_cons snd_var snd_nil))))) (ss_ret (snd_c fun _ => .bl _)) ss_next) (ss_ret (snd_fn (snd_cons (snd_comp (si_zipT snd_var snd_var) sg_two st_yes (snd_call (snd_cons snd_var (snd_cons (snd_c fun _ => .int _) (snd_cons (snd_bin snd_var (snd_c fun _ => .int _)) snd_nil))))) snd_nil))))
abbrev s_tuples_of : Stmt := top 28
abbrev N_tuples_of : List Str := ["rows", "found", "row", "longer", "front", "item"]
theorem sc_tuples_of : FnScope N_tuples_of ["rows"] (defScope s_tuples_of) := ⟨rfl, rfl, rfl, by decide +kernel, rfl, by decide +kernel, by decide +kernel⟩
noncomputable def dn_tuples_of (c : Cf) : SDn :=
    (sSeq (sAsg 1 (eLst (lCons (eTup lNil) lNil)))
    (sSeq (sFor (lItemsL (eVar 0)) (gd1 2)
    (sSeq (sOwn 3 (.lst []))
    (sSeq (sFor (lItemsL (eVar 1)) (gd1 4)
    (sExt 3 (eComp (lItemsL (eVar 2)) [5] (gd1 5) bYes (eBin dAdd (eVar 4) (eTup (lCons (eVar 5) lNil))))))
    (sG (frzE 3) (sAsg 1 (eVar 3))))))
    (sRet (eVar 1))))
noncomputable abbrev G_tuples_of (c : Cf) : Fn := fnG 1 6 (dn_tuples_of c)
theorem ok_tuples_of {c : Cf} {mg : Str → Option Value} {base : Heap} {f : Addr} {fd : FuncData} (hW : Wf c.K c.C) (hB : Bt mg) (hG : Gc c mg) (F : FnP c.K "tuples_of" s_tuples_of f fd) (hm : mg "tuples_of" = some (.ref f)) : Df c mg base "tuples_of" 1 (G_tuples_of c) := by
  refine ⟨f, fd, ["rows"], F.ok sc_tuples_of (fun vs H Q E h => sp_len h) (fun cdv A outer s H vs Q E hr h => ?_), hm, F.kp, F.bindsN fun _ _ _ _ _ _ us hl => match us, hl with | [_], _ => rfl⟩
  suffices h2 : ∃ t, PSs (cxOf CX0 c.P c.w c.K mg base N_tuples_of "tuples_of" (defScope s_tuples_of) f cdv A outer s H E).nox (defBody s_tuples_of) t ∧ SndS c (fun _ _ _ _ => False) t (dn_tuples_of c) by
    obtain ⟨t, h3, h4⟩ := h2
    exact ⟨t, PSs.nox h3, fn_body h4 (by decide) h⟩
  refine ⟨_, (pss_cons (ps_set (i := 1) sc_tuples_of.nd rfl (Or.inl rfl) (pe_lst (pa_cons (pe_tup pa_nil) pa_nil))) (pss_cons (ps_for PassesOwn.never rfl (pi_list (pv 0)) (pg_name (i := 2) sc_tuples_of.nd rfl (Or.inl rfl)) (pss_cons (ps_set (i := 3) sc_tuples_of.nd rfl (Or.inl rfl) (pe_lst pa_nil)) (pss_cons (ps_for PassesOwn.never rfl (pi_list (pv 1)) (pg_name (i := 4) sc_tuples_of.nd rfl (Or.inr rfl)) (pss_one (ps_expr (pe_bm PySem.F.plainAttrs_list PySem.F.slot_list_extend PySem.F.type_list_extend mt_extend (pv 3) (pa_cons (pe_lc (own := [("item", 5)]) (g := (gName 5)) rfl sc_tuples_of.nd (pi_list (pv 2)) (blkOk_by (N := N_tuples_of) (sc := defScope s_tuples_of) (by decide +kernel)) (fun _ _ _ _ _ => (pg_name (i := 5) sc_tuples_of.nd rfl (Or.inl rfl))) (fun _ _ _ _ _ => pts_nil) (fun _ _ _ _ _ => (pe_op (op_addD (by exact ⟨rfl, rfl, rfl⟩)) (pv 4) (pe_tup (pa_cons (pv 5) pa_nil))))) pa_nil))))) (pss_one (ps_set (i := 1) sc_tuples_of.nd rfl (Or.inl rfl) (pv 3)))))) (pss_one (ps_ret (pv 1))))), ?_⟩
  exact (ss_seq (ss_asg (i := 1) (snd_lst (snd_cons (snd_tup snd_nil llen_nil (by decide)) snd_nil) (llen_cons llen_nil) (by decide))) (ss_seq (ss_for (si_list snd_var) sg_name (ss_seq (ss_newL (i := 3)) (ss_seq (ss_for (si_list snd_var) sg_name (ss_ext (i := 3) (snd_comp (si_list snd_var) sg_name st_yes (snd_bin snd_var (snd_tup (snd_cons snd_var snd_nil) (llen_cons llen_nil) (by decide)))))) (ss_gh (gh_frz 3) (ss_asg (i := 1) snd_var))))) (ss_ret snd_var)))
abbrev s_contents_of : Stmt := top 29
abbrev N_contents_of : List Str := ["sizes", "size"]
theorem sc_contents_of : FnScope N_contents_of ["sizes"] (defScope s_contents_of) := ⟨rfl, rfl, rfl, by decide +kernel, rfl, by decide +kernel, by decide +kernel⟩
noncomputable def dn_contents_of (c : Cf) : SDn :=
    (sRet (eCall (G_tuples_of c) (lCons (eComp (lItemsT (eVar 0)) [1] (gd1 1) bYes (eLstRg (eVar 1))) lNil)))
noncomputable abbrev G_contents_of (c : Cf) : Fn := fnG 1 2 (dn_contents_of c)
theorem ok_contents_of {c : Cf} {mg : Str → Option Value} {base : Heap} {f : Addr} {fd : FuncData} (hW : Wf c.K c.C) (hB : Bt mg) (hG : Gc c mg) (h_tuples_of : Df c mg base "tuples_of" 1 (G_tuples_of c)) (F : FnP c.K "contents_of" s_contents_of f fd) (hm : mg "contents_of" = some (.ref f)) : Df c mg base "contents_of" 2 (G_contents_of c) := by
  refine ⟨f, fd, ["sizes"], F.ok sc_contents_of (fun vs H Q E h => sp_len h) (fun cdv A outer s H vs Q E hr h => ?_), hm, F.kp, F.bindsN fun _ _ _ _ _ _ us hl => match us, hl with | [_], _ => rfl⟩
  suffices h2 : ∃ t, PSs (cxOf CX0 c.P c.w c.K mg base N_contents_of "contents_of" (defScope s_contents_of) f cdv A outer s H E).nox (defBody s_contents_of) t ∧ SndS c (fun _ _ _ _ => False) t (dn_contents_of c) by
    obtain ⟨t, h3, h4⟩ := h2
    exact ⟨t, PSs.nox h3, fn_body h4 (by decide) h⟩
  refine ⟨_, (pss_one (ps_ret (pe_df h_tuples_of (by exact ⟨⟨rfl, rfl, rfl⟩, rfl, rfl⟩) hr (by rfl) (pa_cons (pe_lc (own := [("size", 1)]) (g := (gName 1)) rfl sc_contents_of.nd (pi_tup (pv 0)) (blkOk_by (N := N_contents_of) (sc := defScope s_contents_of) (by decide +kernel)) (fun _ _ _ _ _ => (pg_name (i := 1) sc_contents_of.nd rfl (Or.inl rfl))) (fun _ _ _ _ _ => pts_nil) (fun _ _ _ _ _ => (pe_listRg rfl (by rfl) (by exact hB.list) (prg_1 (by rfl) (by exact hB.range) (pv 1))))) pa_nil)))), ?_⟩
  exact (ss_ret (snd_call (snd_cons (snd_comp (si_tup snd_var) sg_name st_yes (snd_lstRg snd_var)) snd_nil)))
abbrev s_pattern_of : Stmt := top 30
abbrev N_pattern_of : List Str := ["view", "column", "worth"]
theorem sc_pattern_of : FnScope N_pattern_of ["view"] (defScope s_pattern_of) := ⟨rfl, rfl, rfl, by decide +kernel, rfl, by decide +kernel, by decide +kernel⟩
noncomputable def dn_pattern_of (c : Cf) : SDn :=
    (sRet (eFn dTuple (lCons (eComp (lEnumT (eVar 0)) [1, 2] (gd2 1 2) (bOf (eBin dNeU (eVar 2) (eC (.int (-1))))) (eVar 1)) lNil)))
noncomputable abbrev G_pattern_of (c : Cf) : Fn := fnG 1 3 (dn_pattern_of c)
theorem ok_pattern_of {c : Cf} {mg : Str → Option Value} {base : Heap} {f : Addr} {fd : FuncData} (hW : Wf c.K c.C) (hB : Bt mg) (hG : Gc c mg) (F : FnP c.K "pattern_of" s_pattern_of f fd) (hm : mg "pattern_of" = some (.ref f)) : Df c mg base "pattern_of" 1 (G_pattern_of c) := by
  refine ⟨f, fd, ["view"], F.ok sc_pattern_of (fun vs H Q E h => sp_len h) (fun cdv A outer s H vs Q E hr h => ?_), hm, F.kp, F.bindsN fun _ _ _ _ _ _ us hl => match us, hl with | [_], _ => rfl⟩
  suffices h2 : ∃ t, PSs (cxOf CX0 c.P c.w c.K mg base N_pattern_of "pattern_of" (defScope s_pattern_of) f cdv A outer s H E).nox (defBody s_pattern_of) t ∧ SndS c (fun _ _ _ _ => False) t (dn_pattern_of c) by
    obtain ⟨t, h3, h4⟩ := h2
    exact ⟨t, PSs.nox h3, fn_body h4 (by decide) h⟩
  refine ⟨_, (pss_one (ps_ret (pe_callTy (call_tupleD (by exact ⟨rfl, rfl, rfl⟩)) (by rfl) (by exact hB.tuple) bb_tuple (pa_cons (pe_lc (own := [("column", 1), ("worth", 2)]) (g := (gTup c.K 2 (gCons (gName 1) (gCons (gName 2) gNil)))) rfl sc_pattern_of.nd (pi_enumT (by rfl) (by exact hB.enumerate) (pa_cons (pv 0) pa_nil)) (blkOk_by (N := N_pattern_of) (sc := defScope s_pattern_of) (by decide +kernel)) (fun _ _ _ _ _ => (pg_tup rfl (pgs_cons (pg_name (i := 1) sc_pattern_of.nd rfl (Or.inl rfl)) (pgs_cons (pg_name (i := 2) sc_pattern_of.nd rfl (Or.inl rfl)) pgs_nil)))) (fun _ _ _ _ _ => pts_one (pt_cmpR (op_neU (by exact ⟨rfl, rfl, rfl⟩) (by exact hu80 hr)) (pv 2) (pe_gi (by exact ⟨⟨rfl, rfl, rfl⟩, rfl, rfl⟩) hG.blank (by rfl)) (nomark _))) (fun _ _ _ _ _ => (pv 1))) pa_nil)))), ?_⟩
  exact (ss_ret (snd_fn (snd_cons (snd_comp (si_enumT snd_var) sg_two (st_test (snd_bin snd_var (snd_c fun _ => .int _))) snd_var) snd_nil)))
abbrev s_is_place : Stmt := top 33
abbrev N_is_place : List Str := ["sizes", "thing"]
theorem sc_is_place : FnScope N_is_place ["sizes", "thing"] (defScope s_is_place) := ⟨rfl, rfl, rfl, by decide +kernel, rfl, by decide +kernel, by decide +kernel⟩
noncomputable def dn_is_place (c : Cf) : SDn :=
    (sRet (eB (bAnd (bOf (eCall (G_is_pair c) (lCons (eVar 1) lNil))) (bOf (eB (bAnd (bOf (eCall (G_is_content c) (lCons (eVar 0) (lCons (eBin dIx (eVar 1) (eC (.int 0))) lNil)))) (bOf (eCall (G_is_lot c) (lCons (eBin dIx (eVar 1) (eC (.int 1))) (lCons (eFn dLen (lCons (eVar 0) lNil)) lNil))))))))))
noncomputable abbrev G_is_place (c : Cf) : Fn := fnG 2 2 (dn_is_place c)
theorem ok_is_place {c : Cf} {mg : Str → Option Value} {base : Heap} {f : Addr} {fd : FuncData} (hW : Wf c.K c.C) (hB : Bt mg) (hG : Gc c mg) (h_is_pair : Df c mg base "is_pair" 1 (G_is_pair c)) (h_is_content : Df c mg base "is_content" 3 (G_is_content c)) (h_is_lot : Df c mg base "is_lot" 3 (G_is_lot c)) (F : FnP c.K "is_place" s_is_place f fd) (hm : mg "is_place" = some (.ref f)) : Df c mg base "is_place" 4 (G_is_place c) := by
  refine ⟨f, fd, ["sizes", "thing"], F.ok sc_is_place (fun vs H Q E h => sp_len h) (fun cdv A outer s H vs Q E hr h => ?_), hm, F.kp, F.bindsN fun _ _ _ _ _ _ us hl => match us, hl with | [_, _], _ => rfl⟩
  suffices h2 : ∃ t, PSs (cxOf CX0 c.P c.w c.K mg base N_is_place "is_place" (defScope s_is_place) f cdv A outer s H E).nox (defBody s_is_place) t ∧ SndS c (fun _ _ _ _ => False) t (dn_is_place c) by
    obtain ⟨t, h3, h4⟩ := h2
    exact ⟨t, PSs.nox h3, fn_body h4 (by decide) h⟩
  refine ⟨_, (pss_one (ps_ret (pe_and (pe_df h_is_pair (by exact ⟨⟨rfl, rfl, rfl⟩, rfl, rfl⟩) hr (by rfl) (pa_cons (pv 1) pa_nil)) (pe_and (pe_df h_is_content (by exact ⟨⟨rfl, rfl, rfl⟩, rfl, rfl⟩) hr (by rfl) (pa_cons (pv 0) (pa_cons (pe_ix (ix_D (by exact ⟨rfl, rfl, rfl⟩)) (pv 1) pe_int (fun _ _ => rfl)) pa_nil))) (pe_one (pe_df h_is_lot (by exact ⟨⟨rfl, rfl, rfl⟩, rfl, rfl⟩) hr (by rfl) (pa_cons (pe_ix (ix_D (by exact ⟨rfl, rfl, rfl⟩)) (pv 1) pe_int (fun _ _ => rfl)) (pa_cons (pe_callB (call_lenD (by exact ⟨rfl, rfl, rfl⟩)) (by rfl) (by exact hB.len) bb_len (pa_cons (pv 0) pa_nil)) pa_nil)))))))), ?_⟩
  exact (ss_ret (snd_andV (snd_call (snd_cons snd_var snd_nil)) (snd_andV (snd_call (snd_cons snd_var (snd_cons (snd_bin snd_var (snd_c fun _ => .int _)) snd_nil))) (snd_call (snd_cons (snd_bin snd_var (snd_c fun _ => .int _)) (snd_cons (snd_fn (snd_cons snd_var snd_nil)) snd_nil))))))
abbrev s_uneven_pattern : Stmt := top 34
abbrev N_uneven_pattern : List Str := ["sizes", "shares", "many", "pattern", "share", "place"]
theorem sc_uneven_pattern : FnScope N_uneven_pattern ["sizes", "shares"] (defScope s_uneven_pattern) := ⟨rfl, rfl, rfl, by decide +kernel, rfl, by decide +kernel, by decide +kernel⟩
noncomputable def dn_uneven_pattern (c : Cf) : SDn :=
    (sSeq (sOwn 2 (.dic false []))
    (sSeq (sFor (lItemsT (eVar 1)) (gd2 5 4)
    (sPut 2 (eBin dIx (eVar 5) (eC (.int 1))) (eBin dAdd (ePeek 2 (eGet (eVar 2) (eBin dIx (eVar 5) (eC (.int 1))) (eC (.int 0)))) (eC (.int 1)))))
    (sSeq (sFrz 2 (sFor (lItemsL (eFn dSorted (lCons (eVar 2) lNil))) (gd1 3)
    (sIf (bOf (eBin dLtU (eBin dIxN (eVar 2) (eVar 3)) (eFn dLen (lCons (eCall (G_contents_of c) (lCons (eVar 0) lNil)) lNil))))
    (sRet (eVar 3))
    sNext)))
    (sRet (eC .non)))))
noncomputable abbrev G_uneven_pattern (c : Cf) : Fn := fnG 2 6 (dn_uneven_pattern c)
theorem ok_uneven_pattern {c : Cf} {mg : Str → Option Value} {base : Heap} {f : Addr} {fd : FuncData} (hW : Wf c.K c.C) (hB : Bt mg) (hG : Gc c mg) (h_contents_of : Df c mg base "contents_of" 2 (G_contents_of c)) (F : FnP c.K "uneven_pattern" s_uneven_pattern f fd) (hm : mg "uneven_pattern" = some (.ref f)) : Df c mg base "uneven_pattern" 3 (G_uneven_pattern c) := by
  refine ⟨f, fd, ["sizes", "shares"], F.ok sc_uneven_pattern (fun vs H Q E h => sp_len h) (fun cdv A outer s H vs Q E hr h => ?_), hm, F.kp, F.bindsN fun _ _ _ _ _ _ us hl => match us, hl with | [_, _], _ => rfl⟩
  suffices h2 : ∃ t, PSs (cxOf CX0 c.P c.w c.K mg base N_uneven_pattern "uneven_pattern" (defScope s_uneven_pattern) f cdv A outer s H E).nox (defBody s_uneven_pattern) t ∧ SndS c (fun _ _ _ _ => False) t (dn_uneven_pattern c) by
    obtain ⟨t, h3, h4⟩ := h2
    exact ⟨t, PSs.nox h3, fn_body h4 (by decide) h⟩
  refine ⟨_, (pss_cons (ps_set (i := 2) sc_uneven_pattern.nd rfl (Or.inl rfl) (pe_newN (by exact ⟨rfl, rfl, rfl⟩))) (pss_cons (ps_for PassesOwn.never rfl (pi_tup (pv 1)) (pg_tup rfl (pgs_cons (pg_name (i := 5) sc_uneven_pattern.nd rfl (Or.inl rfl)) (pgs_cons (pg_name (i := 4) sc_uneven_pattern.nd rfl (Or.inl rfl)) pgs_nil))) (pss_one (ps_asg (pe_op (op_addD (by exact ⟨rfl, rfl, rfl⟩)) (pe_getN (by exact ⟨rfl, rfl, rfl⟩) (by exact hu64 hr) (pv 2) (pe_ix (ix_D (by exact ⟨rfl, rfl, rfl⟩)) (pv 5) pe_int (fun _ _ => rfl)) pe_int (by constructor <;> rfl)) pe_int) (pg_sub (pv 2) (pe_ix (ix_D (by exact ⟨rfl, rfl, rfl⟩)) (pv 5) pe_int (fun _ _ => rfl)) (set_N (by exact ⟨rfl, rfl, rfl⟩) (by exact hu64 hr)))))) (pss_cons (ps_frz (c := c) (i := 2) (ps_for PassesOwn.never rfl (pi_list (pe_callB (cr_sortedD (by exact ⟨rfl, rfl, rfl⟩) rfl (by exact hu64 hr)) (by rfl) (by exact hB.sorted) bb_sorted (pa_cons (pv 2) pa_nil))) (pg_name (i := 3) sc_uneven_pattern.nd rfl (Or.inl rfl)) (pss_one (ps_if (pt_cmpR (op_ltU (by exact ⟨rfl, rfl, rfl⟩) (by exact hu64 hr)) (pe_ixN (by exact ⟨rfl, rfl, rfl⟩) (by exact hu64 hr) (pv 2) (pv 3) (fun _ _ => rfl)) (pe_callB (call_lenD (by exact ⟨rfl, rfl, rfl⟩)) (by rfl) (by exact hB.len) bb_len (pa_cons (pe_df h_contents_of (by exact ⟨⟨rfl, rfl, rfl⟩, rfl, rfl⟩) hr (by rfl) (pa_cons (pv 0) pa_nil)) pa_nil)) (nomark _)) (pss_one (ps_ret (pv 3))) pss_nil)))) (pss_one (ps_ret pe_non))))), ?_⟩
  exact (ss_seq (ss_newD (i := 2)) (ss_seq (ss_for (si_tup snd_var) sg_two (ss_put (i := 2) (snd_bin (st_peek (i := 2) (snd_getN snd_var (snd_bin snd_var (snd_c fun _ => .int _)) (snd_c fun _ => .int _))) (snd_c fun _ => .int _)) (snd_bin snd_var (snd_c fun _ => .int _)))) (ss_seq (ss_frz (i := 2) (ss_for (si_list (snd_fn (snd_cons snd_var snd_nil))) sg_name (ss_if (st_test (snd_bin (snd_bin snd_var snd_var) (snd_fn (snd_cons (snd_call (snd_cons snd_var snd_nil)) snd_nil)))) (ss_ret snd_var) ss_next))) (ss_ret (snd_c fun _ => .non)))))
abbrev s_shares_of : Stmt := top 36
abbrev N_shares_of : List Str := ["table"]
theorem sc_shares_of : FnScope N_shares_of ["table"] (defScope s_shares_of) := ⟨rfl, rfl, rfl, by decide +kernel, rfl, by decide +kernel, by decide +kernel⟩
noncomputable def dn_shares_of (c : Cf) : SDn :=
    (sRet (eFn dDict (lCons (eFld (eVar 0) false) lNil)))
noncomputable abbrev G_shares_of (c : Cf) : Fn := fnG 1 1 (dn_shares_of c)
theorem ok_shares_of {c : Cf} {mg : Str → Option Value} {base : Heap} {f : Addr} {fd : FuncData} (hW : Wf c.K c.C) (hB : Bt mg) (hG : Gc c mg) (F : FnP c.K "shares_of" s_shares_of f fd) (hm : mg "shares_of" = some (.ref f)) : Df c mg base "shares_of" 1 (G_shares_of c) := by
  refine ⟨f, fd, ["table"], F.ok sc_shares_of (fun vs H Q E h => sp_len h) (fun cdv A outer s H vs Q E hr h => ?_), hm, F.kp, F.bindsN fun _ _ _ _ _ _ us hl => match us, hl with | [_], _ => rfl⟩
  suffices h2 : ∃ t, PSs (cxOf CX0 c.P c.w c.K mg base N_shares_of "shares_of" (defScope s_shares_of) f cdv A outer s H E).nox (defBody s_shares_of) t ∧ SndS c (fun _ _ _ _ => False) t (dn_shares_of c) by
    obtain ⟨t, h3, h4⟩ := h2
    exact ⟨t, PSs.nox h3, fn_body h4 (by decide) h⟩
  refine ⟨_, (pss_one (ps_ret (pe_callTy (call_dictD (by exact ⟨rfl, rfl, rfl⟩) rfl (by exact hu70 hr)) (by rfl) (by exact hB.dict) bb_dict (pa_cons (pe_fld (pv 0) rfl) pa_nil)))), ?_⟩
  exact (ss_ret (snd_fn (snd_cons (snd_shares hW snd_var) snd_nil)))
abbrev s_pattern_at : Stmt := top 37
abbrev N_pattern_at : List Str := ["key"]
theorem sc_pattern_at : FnScope N_pattern_at ["key"] (defScope s_pattern_at) := ⟨rfl, rfl, rfl, by decide +kernel, rfl, by decide +kernel, by decide +kernel⟩
noncomputable def dn_pattern_at (c : Cf) : SDn :=
    (sRet (eIf (bAnd (bOf (eCall (G_is_pair c) (lCons (eVar 0) lNil))) (bOf (eFn (dIsi c) (lCons (eBin dIx (eVar 0) (eC (.int 1))) (lCons (eC (.ty "tuple")) lNil))))) (eBin dIx (eVar 0) (eC (.int 1))) (eCall (G_pattern_of c) (lCons (eVar 0) lNil))))
noncomputable abbrev G_pattern_at (c : Cf) : Fn := fnG 1 1 (dn_pattern_at c)
theorem ok_pattern_at {c : Cf} {mg : Str → Option Value} {base : Heap} {f : Addr} {fd : FuncData} (hW : Wf c.K c.C) (hB : Bt mg) (hG : Gc c mg) (h_is_pair : Df c mg base "is_pair" 1 (G_is_pair c)) (h_pattern_of : Df c mg base "pattern_of" 1 (G_pattern_of c)) (F : FnP c.K "pattern_at" s_pattern_at f fd) (hm : mg "pattern_at" = some (.ref f)) : Df c mg base "pattern_at" 2 (G_pattern_at c) := by
  refine ⟨f, fd, ["key"], F.ok sc_pattern_at (fun vs H Q E h => sp_len h) (fun cdv A outer s H vs Q E hr h => ?_), hm, F.kp, F.bindsN fun _ _ _ _ _ _ us hl => match us, hl with | [_], _ => rfl⟩
  suffices h2 : ∃ t, PSs (cxOf CX0 c.P c.w c.K mg base N_pattern_at "pattern_at" (defScope s_pattern_at) f cdv A outer s H E).nox (defBody s_pattern_at) t ∧ SndS c (fun _ _ _ _ => False) t (dn_pattern_at c) by
    obtain ⟨t, h3, h4⟩ := h2
    exact ⟨t, PSs.nox h3, fn_body h4 (by decide) h⟩
  refine ⟨_, (pss_one (ps_ret (pe_ifExp ((pw_and (pt_val (pe_df h_is_pair (by exact ⟨⟨rfl, rfl, rfl⟩, rfl, rfl⟩) hr (by rfl) (pa_cons (pv 0) pa_nil))) (pw_and1 (pt_val (pe_callB (call_isiD (by exact ⟨rfl, rfl, rfl⟩) hW) (by rfl) (by exact hB.isinstance) bb_isinstance (pa_cons (pe_ix (ix_D (by exact ⟨rfl, rfl, rfl⟩)) (pv 0) pe_int (fun _ _ => rfl)) (pa_cons (pe_ty (by exact hB.tuple) bb_tuple (by rfl)) pa_nil))))))).pt (pe_ix (ix_D (by exact ⟨rfl, rfl, rfl⟩)) (pv 0) pe_int (fun _ _ => rfl)) (pe_df h_pattern_of (by exact ⟨⟨rfl, rfl, rfl⟩, rfl, rfl⟩) hr (by rfl) (pa_cons (pv 0) pa_nil))))), ?_⟩
  exact (ss_ret (snd_if (st_and (st_val (snd_call (snd_cons snd_var snd_nil))) (st_val (snd_fn (snd_cons (snd_bin snd_var (snd_c fun _ => .int _)) (snd_cons (snd_c fun _ => .ty _) snd_nil))))) (snd_bin snd_var (snd_c fun _ => .int _)) (snd_call (snd_cons snd_var snd_nil))))
abbrev s_family : Stmt := top 38
abbrev N_family : List Str := ["table", "key", "share"]
theorem sc_family : FnScope N_family ["table"] (defScope s_family) := ⟨rfl, rfl, rfl, by decide +kernel, rfl, by decide +kernel, by decide +kernel⟩
noncomputable def dn_family (c : Cf) : SDn :=
    (sRet (eFn dSortedS (lCons (eFn dSet (lCons (eComp (lItemsT (eFld (eVar 0) false)) [1, 2] (gd2 1 2) bYes (eCall (G_pattern_at c) (lCons (eVar 1) lNil))) lNil)) lNil)))
noncomputable abbrev G_family (c : Cf) : Fn := fnG 1 3 (dn_family c)
theorem ok_family {c : Cf} {mg : Str → Option Value} {base : Heap} {f : Addr} {fd : FuncData} (hW : Wf c.K c.C) (hB : Bt mg) (hG : Gc c mg) (h_pattern_at : Df c mg base "pattern_at" 2 (G_pattern_at c)) (F : FnP c.K "family" s_family f fd) (hm : mg "family" = some (.ref f)) : Df c mg base "family" 3 (G_family c) := by
  refine ⟨f, fd, ["table"], F.ok sc_family (fun vs H Q E h => sp_len h) (fun cdv A outer s H vs Q E hr h => ?_), hm, F.kp, F.bindsN fun _ _ _ _ _ _ us hl => match us, hl with | [_], _ => rfl⟩
  suffices h2 : ∃ t, PSs (cxOf CX0 c.P c.w c.K mg base N_family "family" (defScope s_family) f cdv A outer s H E).nox (defBody s_family) t ∧ SndS c (fun _ _ _ _ => False) t (dn_family c) by
    obtain ⟨t, h3, h4⟩ := h2
    exact ⟨t, PSs.nox h3, fn_body h4 (by decide) h⟩
  refine ⟨_, (pss_one (ps_ret (pe_callB (cr_sortedS (by exact ⟨rfl, rfl, rfl⟩) rfl (by exact hu64 hr)) (by rfl) (by exact hB.sorted) bb_sorted (pa_cons (pe_callTy (cr_setD (by exact ⟨rfl, rfl, rfl⟩) rfl (by exact hu64 hr)) (by rfl) (by exact hB.set) bb_set (pa_cons (pe_lc (own := [("key", 1), ("share", 2)]) (g := (gTup c.K 2 (gCons (gName 1) (gCons (gName 2) gNil)))) rfl sc_family.nd (pi_tup (pe_fld (pv 0) rfl)) (blkOk_by (N := N_family) (sc := defScope s_family) (by decide +kernel)) (fun _ _ _ _ _ => (pg_tup rfl (pgs_cons (pg_name (i := 1) sc_family.nd rfl (Or.inl rfl)) (pgs_cons (pg_name (i := 2) sc_family.nd rfl (Or.inl rfl)) pgs_nil)))) (fun _ _ _ _ _ => pts_nil) (fun _ _ _ _ _ => (pe_df h_pattern_at (by exact ⟨⟨rfl, rfl, rfl⟩, rfl, rfl⟩) hr (by rfl) (pa_cons (pv 1) pa_nil)))) pa_nil)) pa_nil)))), ?_⟩
  exact (ss_ret (snd_fn (snd_cons (snd_fn (snd_cons (snd_comp (si_tup (snd_shares hW snd_var)) sg_two st_yes (snd_call (snd_cons snd_var snd_nil))) snd_nil)) snd_nil)))
abbrev s_first_wrong : Stmt := top 31
abbrev N_first_wrong : List Str := ["shares", "is_key", "last", "at", "item"]
theorem sc_first_wrong : FnScope N_first_wrong ["shares", "is_key"] (defScope s_first_wrong) := ⟨rfl, rfl, rfl, by decide +kernel, rfl, by decide +kernel, by decide +kernel⟩
noncomputable def dn_first_wrong (c : Cf) (f0 c0 : Addr) (x0 : V) : SDn :=
    (sSeq (sAsg 2 (eC .non))
    (sSeq (sFor (lEnumT (eVar 0)) (gd2 3 4)
    (sSeq (sIf (bOr (bNot (bOf (eCall (G_is_pair c) (lCons (eVar 4) lNil)))) (bOr (bNot (bOf (eLam f0 c0 x0 1 (G_is_place c) (lCons (eBin dIx (eVar 4) (eC (.int 0))) lNil)))) (bOr (bNot (bOf (eCall (G_is_fraction c) (lCons (eBin dIx (eVar 4) (eC (.int 1))) lNil)))) (bOf (eBin dLe (eBin dIx (eBin dIx (eVar 4) (eC (.int 1))) (eC (.int 0))) (eC (.int 0)))))))
    (sRet (eVar 3))
    sNext)
    (sSeq (sIf (bAnd (bOf (eBin dIsNot (eVar 2) (eC .non))) (bNot (bOf (eBin dLtU (eVar 2) (eBin dIx (eVar 4) (eC (.int 0)))))))
    (sRet (eVar 3))
    sNext)
    (sAsg 2 (eBin dIx (eVar 4) (eC (.int 0)))))))
    (sRet (eC .non))))
noncomputable abbrev G_first_wrong (c : Cf) (f0 c0 : Addr) (x0 : V) : Fn := fnG 2 5 (dn_first_wrong c f0 c0 x0)
theorem ok_first_wrong {c : Cf} {mg : Str → Option Value} {base : Heap} {f : Addr} {fd : FuncData} {f0 c0 : Addr} {x0 : V} (hW : Wf c.K c.C) (hB : Bt mg) (hG : Gc c mg) (h_is_pair : Df c mg base "is_pair" 1 (G_is_pair c)) (h_is_place : Df c mg base "is_place" 4 (G_is_place c)) (h_is_fraction : Df c mg base "is_fraction" 2 (G_is_fraction c)) (F : FnP c.K "first_wrong" s_first_wrong f fd) (hm : mg "first_wrong" = some (.ref f)) : DfS c mg base "first_wrong" (lamCond c f0 c0 x0) 6 (G_first_wrong c f0 c0 x0) := by
  refine ⟨f, fd, ["shares", "is_key"], FnS.of F sc_first_wrong (fun vs H Q E h => sp_len h) (fun cdv A outer s H vs Q E hr hL h => ?_), hm, F.kp, F.bindsN fun _ _ _ _ _ _ us hl => match us, hl with | [_, _], _ => rfl⟩
  suffices h2 : ∃ t, PSs (cxOf CX0 c.P c.w c.K mg base N_first_wrong "first_wrong" (defScope s_first_wrong) f cdv A outer s H E).nox (defBody s_first_wrong) t ∧ SndS c (fun _ _ _ _ => False) t (dn_first_wrong c f0 c0 x0) by
    obtain ⟨t, h3, h4⟩ := h2
    exact ⟨t, PSs.nox h3, fn_body h4 (by decide) h⟩
  refine ⟨_, (pss_cons (ps_set (i := 2) sc_first_wrong.nd rfl (Or.inl rfl) pe_non) (pss_cons (ps_for PassesOwn.never rfl (pi_enumT (by rfl) (by exact hB.enumerate) (pa_cons (pv 0) pa_nil)) (pg_tup rfl (pgs_cons (pg_name (i := 3) sc_first_wrong.nd rfl (Or.inl rfl)) (pgs_cons (pg_name (i := 4) sc_first_wrong.nd rfl (Or.inl rfl)) pgs_nil))) (pss_cons (ps_if ((pw_or (pt_not (pt_val (pe_df h_is_pair (by exact ⟨⟨rfl, rfl, rfl⟩, rfl, rfl⟩) hr (by rfl) (pa_cons (pv 4) pa_nil)))) (pw_or (pt_not (pt_val (pe_lam (L := lamW) (i := 1) (k := 4) (by exact ⟨⟨rfl, rfl, rfl⟩, rfl, rfl⟩) rfl (by exact hL) rfl (by exact hr.mono (by decide)) nsc_lam (fun vs H Q E h => sp_len h) (fun _ _ _ _ _ => rfl) (fun cl A outer s H E hr => by exact pe_df h_is_place (by exact ⟨⟨rfl, rfl, rfl⟩, rfl, rfl⟩) hr (by rfl) (pa_cons (pv 1) (pa_cons (pv 0) pa_nil))) (pa_cons (pe_ix (ix_D (by exact ⟨rfl, rfl, rfl⟩)) (pv 4) pe_int (fun _ _ => rfl)) pa_nil) rfl (by exact Or.inl rfl)))) (pw_or (pt_not (pt_val (pe_df h_is_fraction (by exact ⟨⟨rfl, rfl, rfl⟩, rfl, rfl⟩) hr (by rfl) (pa_cons (pe_ix (ix_D (by exact ⟨rfl, rfl, rfl⟩)) (pv 4) pe_int (fun _ _ => rfl)) pa_nil)))) (pw_or1 (pt_cmpR (op_leD (c := c)) (pe_ix (ix_D (by exact ⟨rfl, rfl, rfl⟩)) (pe_ix (ix_D (by exact ⟨rfl, rfl, rfl⟩)) (pv 4) pe_int (fun _ _ => rfl)) pe_int (fun _ _ => rfl)) pe_int (nomark _))))))).pt (pss_one (ps_ret (pv 3))) pss_nil) (pss_cons (ps_if ((pw_and (pt_cmpR (op_isNotD (c := c)) (pv 2) pe_non (nomark _)) (pw_and1 (pt_not (pt_cmpR (op_ltU (by exact ⟨rfl, rfl, rfl⟩) (by exact hu64 hr)) (pv 2) (pe_ix (ix_D (by exact ⟨rfl, rfl, rfl⟩)) (pv 4) pe_int (fun _ _ => rfl)) (nomark _)))))).pt (pss_one (ps_ret (pv 3))) pss_nil) (pss_one (ps_set (i := 2) sc_first_wrong.nd rfl (Or.inl rfl) (pe_ix (ix_D (by exact ⟨rfl, rfl, rfl⟩)) (pv 4) pe_int (fun _ _ => rfl))))))) (pss_one (ps_ret pe_non)))), ?_⟩
  exact (ss_seq (ss_asg (i := 2) (snd_c fun _ => .non)) (ss_seq (ss_for (si_enumT snd_var) sg_two (ss_seq (ss_if (st_or (st_not (st_val (snd_call (snd_cons snd_var snd_nil)))) (st_or (st_not (st_val (snd_lam (f := f0) (c' := c0) (x := x0) (i := 1) (snd_cons (snd_bin snd_var (snd_c fun _ => .int _)) snd_nil)))) (st_or (st_not (st_val (snd_call (snd_cons (snd_bin snd_var (snd_c fun _ => .int _)) snd_nil)))) (st_test (snd_bin (snd_bin (snd_bin snd_var (snd_c fun _ => .int _)) (snd_c fun _ => .int _)) (snd_c fun _ => .int _)))))) (ss_ret snd_var) ss_next) (ss_seq (ss_if (st_and (st_test (snd_bin snd_var (snd_c fun _ => .non))) (st_not (st_test (snd_bin snd_var (snd_bin snd_var (snd_c fun _ => .int _)))))) (ss_ret snd_var) ss_next) (ss_asg (i := 2) (snd_bin snd_var (snd_c fun _ => .int _)))))) (ss_ret (snd_c fun _ => .non))))
abbrev s_first_bad : Stmt := top 32
abbrev N_first_bad : List Str := ["sizes", "shares", "is_key", "wrong", "key", "share"]
theorem sc_first_bad : FnScope N_first_bad ["sizes", "shares", "is_key"] (defScope s_first_bad) := ⟨rfl, rfl, rfl, by decide +kernel, rfl, by decide +kernel, by decide +kernel⟩
noncomputable def dn_first_bad (c : Cf) (f0 c0 : Addr) (x0 : V) : SDn :=
    (sSeq (sIf (bNot (bOf (eCall (G_is_sizes c) (lCons (eVar 0) lNil))))
    (sRet (eC (.str "sizes")))
    sNext)
    (sSeq (sIf (bNot (bOf (eFn (dIsi c) (lCons (eVar 1) (lCons (eC (.ty "tuple")) lNil)))))
    (sRet (eC (.str "shares")))
    sNext)
    (sSeq (sAsg 3 (eCall (G_first_wrong c f0 c0 x0) (lCons (eVar 1) (lCons (eVar 2) lNil))))
    (sSeq (sIf (bOf (eBin dIsNot (eVar 3) (eC .non)))
    (sRet (eVar 3))
    sNext)
    (sRet (eIf (bOf (eBin dEqX (eCall (G_add_all c) (lCons (eComp (lItemsT (eVar 1)) [4, 5] (gd2 4 5) bYes (eVar 5)) lNil)) (eC (tupI [1, 1])))) (eC .non) (eC (.str "sum"))))))))
noncomputable abbrev G_first_bad (c : Cf) (f0 c0 : Addr) (x0 : V) : Fn := fnG 3 6 (dn_first_bad c f0 c0 x0)
theorem ok_first_bad {c : Cf} {mg : Str → Option Value} {base : Heap} {f : Addr} {fd : FuncData} {f0 c0 : Addr} {x0 : V} (hW : Wf c.K c.C) (hB : Bt mg) (hG : Gc c mg) (h_is_sizes : Df c mg base "is_sizes" 3 (G_is_sizes c)) (h_first_wrong : DfS c mg base "first_wrong" (lamCond c f0 c0 x0) 6 (G_first_wrong c f0 c0 x0)) (h_add_all : Df c mg base "add_all" 4 (G_add_all c)) (F : FnP c.K "first_bad" s_first_bad f fd) (hm : mg "first_bad" = some (.ref f)) : DfS c mg base "first_bad" (lamCond c f0 c0 x0) 7 (G_first_bad c f0 c0 x0) := by
  refine ⟨f, fd, ["sizes", "shares", "is_key"], FnS.of F sc_first_bad (fun vs H Q E h => sp_len h) (fun cdv A outer s H vs Q E hr hL h => ?_), hm, F.kp, F.bindsN fun _ _ _ _ _ _ us hl => match us, hl with | [_, _, _], _ => rfl⟩
  suffices h2 : ∃ t, PSs (cxOf CX0 c.P c.w c.K mg base N_first_bad "first_bad" (defScope s_first_bad) f cdv A outer s H E).nox (defBody s_first_bad) t ∧ SndS c (fun _ _ _ _ => False) t (dn_first_bad c f0 c0 x0) by
    obtain ⟨t, h3, h4⟩ := h2
    exact ⟨t, PSs.nox h3, fn_body h4 (by decide) h⟩
  obtain ⟨a_one, hone⟩ := hG.one
  refine ⟨_, (pss_cons (ps_if (pt_not (pt_val (pe_df h_is_sizes (by exact ⟨⟨rfl, rfl, rfl⟩, rfl, rfl⟩) hr (by rfl) (pa_cons (pv 0) pa_nil)))) (pss_one (ps_ret pe_str)) pss_nil) (pss_cons (ps_if (pt_not (pt_val (pe_callB (call_isiD (by exact ⟨rfl, rfl, rfl⟩) hW) (by rfl) (by exact hB.isinstance) bb_isinstance (pa_cons (pv 1) (pa_cons (pe_ty (by exact hB.tuple) bb_tuple (by rfl)) pa_nil))))) (pss_one (ps_ret pe_str)) pss_nil) (pss_cons (ps_set (i := 3) sc_first_bad.nd rfl (Or.inl rfl) (pe_dfS h_first_wrong (by exact ⟨⟨rfl, rfl, rfl⟩, rfl, rfl⟩) hr (by exact fun pins σ H s I => LamO.stack (by exact hL) rfl I) (by rfl) (pa_cons (pv 1) (pa_cons (pv 2) pa_nil)))) (pss_cons (ps_if (pt_cmpR (op_isNotD (c := c)) (pv 3) pe_non (nomark _)) (pss_one (ps_ret (pv 3))) pss_nil) (pss_one (ps_ret (pe_ifExp (pt_cmpR (op_eqX (by exact ⟨rfl, rfl, rfl⟩) (by exact hu64 hr)) (pe_df h_add_all (by exact ⟨⟨rfl, rfl, rfl⟩, rfl, rfl⟩) hr (by rfl) (pa_cons (pe_lc (own := [("key", 4), ("share", 5)]) (g := (gTup c.K 2 (gCons (gName 4) (gCons (gName 5) gNil)))) rfl sc_first_bad.nd (pi_tup (pv 1)) (blkOk_by (N := N_first_bad) (sc := defScope s_first_bad) (by decide +kernel)) (fun _ _ _ _ _ => (pg_tup rfl (pgs_cons (pg_name (i := 4) sc_first_bad.nd rfl (Or.inl rfl)) (pgs_cons (pg_name (i := 5) sc_first_bad.nd rfl (Or.inl rfl)) pgs_nil)))) (fun _ _ _ _ _ => pts_nil) (fun _ _ _ _ _ => (pv 5))) pa_nil)) (pe_gr (by exact ⟨⟨rfl, rfl, rfl⟩, rfl, rfl⟩) hone.1 (by rfl)) (nomark _)) pe_non pe_str))))))), ?_⟩
  exact (ss_seq (ss_if (st_not (st_val (snd_call (snd_cons snd_var snd_nil)))) (ss_ret (snd_c fun _ => .str _)) ss_next) (ss_seq (ss_if (st_not (st_val (snd_fn (snd_cons snd_var (snd_cons (snd_c fun _ => .ty _) snd_nil))))) (ss_ret (snd_c fun _ => .str _)) ss_next) (ss_seq (ss_asg (i := 3) (snd_call (snd_cons snd_var (snd_cons snd_var snd_nil)))) (ss_seq (ss_if (st_test (snd_bin snd_var (snd_c fun _ => .non))) (ss_ret snd_var) ss_next) (ss_ret (snd_if (st_test (snd_bin (snd_call (snd_cons (snd_comp (si_tup snd_var) sg_two st_yes snd_var) snd_nil)) (snd_c hone.2))) (snd_c fun _ => .non) (snd_c fun _ => .str _)))))))
end Dl
namespace Dl
open PySem PySem.Spec PyProof.Rows L2
abbrev s_pairs_of : Stmt := top 40
abbrev N_pairs_of : List Str := ["whole", "column", "other", "found", "pattern", "patterns"]
theorem sc_pairs_of : FnScope N_pairs_of ["whole", "column"] (defScope s_pairs_of) := ⟨rfl, rfl, rfl, by decide +kernel, rfl, by decide +kernel, by decide +kernel⟩
noncomputable def dn_pairs_of (c : Cf) : SDn :=
    (sSeq (sAsg 5 (eCall (G_family c) (lCons (eVar 0) lNil)))
    (sSeq (sOwn 3 (.lst []))
    (sSeq (sFor (lItemsL (eVar 5)) (gd1 4)
    (sSeq (sAsg 2 (eFn dTuple (lCons (eFn dSorted (lCons (eBin dAdd (eVar 4) (eTup (lCons (eVar 1) lNil))) lNil)) lNil)))
    (sIf (bAnd (bOf (eBin dNotIn (eVar 1) (eVar 4))) (bOf (eBin dIn (eVar 2) (eVar 5))))
    (sApp 3 (eTup (lCons (eVar 4) (lCons (eVar 2) lNil))))
    sNext)))
    (sG (frzE 3) (sRet (eVar 3))))))
noncomputable abbrev G_pairs_of (c : Cf) : Fn := fnG 2 6 (dn_pairs_of c)
theorem ok_pairs_of {c : Cf} {mg : Str → Option Value} {base : Heap} {f : Addr} {fd : FuncData} (hW : Wf c.K c.C) (hB : Bt mg) (hG : Gc c mg) (h_family : Df c mg base "family" 3 (G_family c)) (F : FnP c.K "pairs_of" s_pairs_of f fd) (hm : mg "pairs_of" = some (.ref f)) : Df c mg base "pairs_of" 4 (G_pairs_of c) := by
  refine ⟨f, fd, ["whole", "column"], F.ok sc_pairs_of (fun vs H Q E h => sp_len h) (fun cdv A outer s H vs Q E hr h => ?_), hm, F.kp, F.bindsN fun _ _ _ _ _ _ us hl => match us, hl with | [_, _], _ => rfl⟩
  suffices h2 : ∃ t, PSs (cxOf CX0 c.P c.w c.K mg base N_pairs_of "pairs_of" (defScope s_pairs_of) f cdv A outer s H E).nox (defBody s_pairs_of) t ∧ SndS c (fun _ _ _ _ => False) t (dn_pairs_of c) by
    obtain ⟨t, h3, h4⟩ := h2
    exact ⟨t, PSs.nox h3, fn_body h4 (by decide) h⟩
  refine ⟨_, (pss_cons (ps_set (i := 5) sc_pairs_of.nd rfl (Or.inl rfl) (pe_df h_family (by exact ⟨⟨rfl, rfl, rfl⟩, rfl, rfl⟩) hr (by rfl) (pa_cons (pv 0) pa_nil))) (pss_cons (ps_set (i := 3) sc_pairs_of.nd rfl (Or.inl rfl) (pe_lst pa_nil)) (pss_cons (ps_for PassesOwn.never rfl (pi_list (pv 5)) (pg_name (i := 4) sc_pairs_of.nd rfl (Or.inl rfl)) (pss_cons (ps_set (i := 2) sc_pairs_of.nd rfl (Or.inl rfl) (pe_callTy (call_tupleD (by exact ⟨rfl, rfl, rfl⟩)) (by rfl) (by exact hB.tuple) bb_tuple (pa_cons (pe_callB (cr_sortedD (by exact ⟨rfl, rfl, rfl⟩) rfl (by exact hu64 hr)) (by rfl) (by exact hB.sorted) bb_sorted (pa_cons (pe_op (op_addD (by exact ⟨rfl, rfl, rfl⟩)) (pv 4) (pe_tup (pa_cons (pv 1) pa_nil))) pa_nil)) pa_nil))) (pss_one (ps_if ((pw_and (pt_cmpR (op_notInDD (by exact ⟨rfl, rfl, rfl⟩) (by exact hu65 hr)) (pv 1) (pv 4) (by rfl)) (pw_and1 (pt_cmpR (op_inDD (by exact ⟨rfl, rfl, rfl⟩) (by exact hu65 hr)) (pv 2) (pv 5) (by rfl))))).pt (pss_one (ps_expr (pe_bm PySem.F.plainAttrs_list PySem.F.slot_list_append PySem.F.type_list_append mt_append (pv 3) (pa_cons (pe_tup (pa_cons (pv 4) (pa_cons (pv 2) pa_nil))) pa_nil)))) pss_nil)))) (pss_one (ps_ret (pv 3)))))), ?_⟩
  exact (ss_seq (ss_asg (i := 5) (snd_call (snd_cons snd_var snd_nil))) (ss_seq (ss_newL (i := 3)) (ss_seq (ss_for (si_list snd_var) sg_name (ss_seq (ss_asg (i := 2) (snd_fn (snd_cons (snd_fn (snd_cons (snd_bin snd_var (snd_tup (snd_cons snd_var snd_nil) (llen_cons llen_nil) (by decide))) snd_nil)) snd_nil))) (ss_if (st_and (st_test (snd_bin snd_var snd_var)) (st_test (snd_bin snd_var snd_var))) (ss_app (i := 3) (snd_tup (snd_cons snd_var (snd_cons snd_var snd_nil)) (llen_cons (llen_cons llen_nil)) (by decide))) ss_next))) (ss_gh (gh_frz 3) (ss_ret snd_var)))))
abbrev s_quotients_along : Stmt := top 41
abbrev N_quotients_along : List Str := ["whole", "pattern", "other", "known", "content"]
theorem sc_quotients_along : FnScope N_quotients_along ["whole", "pattern", "other"] (defScope s_quotients_along) := ⟨rfl, rfl, rfl, by decide +kernel, rfl, by decide +kernel, by decide +kernel⟩
noncomputable def dn_quotients_along (c : Cf) : SDn :=
    (sSeq (sAsg 3 (eCall (G_shares_of c) (lCons (eVar 0) lNil)))
    (sRet (eDcN (lItemsL (eCall (G_contents_of c) (lCons (eFld (eVar 0) true) lNil))) [4] (gd1 4) bYes (eVar 4) (eCall (G_over c) (lCons (eBin dIxN (eVar 3) (eTup (lCons (eVar 4) (lCons (eVar 1) lNil)))) (lCons (eBin dIxN (eVar 3) (eTup (lCons (eVar 4) (lCons (eVar 2) lNil)))) lNil))))))
noncomputable abbrev G_quotients_along (c : Cf) : Fn := fnG 3 5 (dn_quotients_along c)
theorem ok_quotients_along {c : Cf} {mg : Str → Option Value} {base : Heap} {f : Addr} {fd : FuncData} (hW : Wf c.K c.C) (hB : Bt mg) (hG : Gc c mg) (h_shares_of : Df c mg base "shares_of" 1 (G_shares_of c)) (h_contents_of : Df c mg base "contents_of" 2 (G_contents_of c)) (h_over : Df c mg base "over" 3 (G_over c)) (F : FnP c.K "quotients_along" s_quotients_along f fd) (hm : mg "quotients_along" = some (.ref f)) : Df c mg base "quotients_along" 4 (G_quotients_along c) := by
  refine ⟨f, fd, ["whole", "pattern", "other"], F.ok sc_quotients_along (fun vs H Q E h => sp_len h) (fun cdv A outer s H vs Q E hr h => ?_), hm, F.kp, F.bindsN fun _ _ _ _ _ _ us hl => match us, hl with | [_, _, _], _ => rfl⟩
  suffices h2 : ∃ t, PSs (cxOf CX0 c.P c.w c.K mg base N_quotients_along "quotients_along" (defScope s_quotients_along) f cdv A outer s H E).nox (defBody s_quotients_along) t ∧ SndS c (fun _ _ _ _ => False) t (dn_quotients_along c) by
    obtain ⟨t, h3, h4⟩ := h2
    exact ⟨t, PSs.nox h3, fn_body h4 (by decide) h⟩
  refine ⟨_, (pss_cons (ps_set (i := 3) sc_quotients_along.nd rfl (Or.inr rfl) (pe_df h_shares_of (by exact ⟨⟨rfl, rfl, rfl⟩, rfl, rfl⟩) hr (by rfl) (pa_cons (pv 0) pa_nil))) (pss_one (ps_ret (pe_frz (c := c) (pe_dcN (own := [("content", 4)]) (g := (gName 4)) (by exact ⟨rfl, rfl, rfl⟩) (by exact hu64 hr) rfl sc_quotients_along.nd (pi_list (pe_df h_contents_of (by exact ⟨⟨rfl, rfl, rfl⟩, rfl, rfl⟩) hr (by rfl) (pa_cons (pe_fld (pv 0) rfl) pa_nil))) (blkOk_by (N := N_quotients_along) (sc := defScope s_quotients_along) (by decide +kernel)) (fun _ _ _ _ _ => (pg_name (i := 4) sc_quotients_along.nd rfl (Or.inl rfl))) (fun _ _ _ _ _ => pts_nil) (fun _ _ _ _ _ => (pv 4)) (fun _ _ _ _ _ => (pe_df h_over (by exact ⟨⟨rfl, rfl, rfl⟩, rfl, rfl⟩) hr (by rfl) (pa_cons (pe_ixN (by exact ⟨rfl, rfl, rfl⟩) (by exact hu64 hr) (pv 3) (pe_tup (pa_cons (pv 4) (pa_cons (pv 1) pa_nil))) (fun _ _ => rfl)) (pa_cons (pe_ixN (by exact ⟨rfl, rfl, rfl⟩) (by exact hu64 hr) (pv 3) (pe_tup (pa_cons (pv 4) (pa_cons (pv 2) pa_nil))) (fun _ _ => rfl)) pa_nil))))))))), ?_⟩
  exact (ss_seq (ss_asg (i := 3) (snd_call (snd_cons snd_var snd_nil))) (ss_ret (snd_dcN (si_list (snd_call (snd_cons (snd_sizes hW snd_var) snd_nil))) sg_name st_yes snd_var (snd_call (snd_cons (snd_bin snd_var (snd_tup (snd_cons snd_var (snd_cons snd_var snd_nil)) (llen_cons (llen_cons llen_nil)) (by decide))) (snd_cons (snd_bin snd_var (snd_tup (snd_cons snd_var (snd_cons snd_var snd_nil)) (llen_cons (llen_cons llen_nil)) (by decide))) snd_nil))))))
abbrev s_without : Stmt := top 42
abbrev N_without : List Str := ["content", "column"]
theorem sc_without : FnScope N_without ["content", "column"] (defScope s_without) := ⟨rfl, rfl, rfl, by decide +kernel, rfl, by decide +kernel, by decide +kernel⟩
noncomputable def dn_without (c : Cf) : SDn :=
    (sRet (eBin dAdd (eBin dAdd (eSlT (eVar 0) none (some (eVar 1))) (eTup (lCons (eC (.int (-1))) lNil))) (eSlT (eVar 0) (some (eBin dAdd (eVar 1) (eC (.int 1)))) none)))
noncomputable abbrev G_without (c : Cf) : Fn := fnG 2 2 (dn_without c)
theorem ok_without {c : Cf} {mg : Str → Option Value} {base : Heap} {f : Addr} {fd : FuncData} (hW : Wf c.K c.C) (hB : Bt mg) (hG : Gc c mg) (F : FnP c.K "without" s_without f fd) (hm : mg "without" = some (.ref f)) : Df c mg base "without" 1 (G_without c) := by
  refine ⟨f, fd, ["content", "column"], F.ok sc_without (fun vs H Q E h => sp_len h) (fun cdv A outer s H vs Q E hr h => ?_), hm, F.kp, F.bindsN fun _ _ _ _ _ _ us hl => match us, hl with | [_, _], _ => rfl⟩
  suffices h2 : ∃ t, PSs (cxOf CX0 c.P c.w c.K mg base N_without "without" (defScope s_without) f cdv A outer s H E).nox (defBody s_without) t ∧ SndS c (fun _ _ _ _ => False) t (dn_without c) by
    obtain ⟨t, h3, h4⟩ := h2
    exact ⟨t, PSs.nox h3, fn_body h4 (by decide) h⟩
  refine ⟨_, (pss_one (ps_ret (pe_op (op_addD (by exact ⟨rfl, rfl, rfl⟩)) (pe_op (op_addD (by exact ⟨rfl, rfl, rfl⟩)) (pe_slice sl_tupA (pv 0) po_none (po_some (pv 1))) (pe_tup (pa_cons (pe_gi (by exact ⟨⟨rfl, rfl, rfl⟩, rfl, rfl⟩) hG.blank (by rfl)) pa_nil))) (pe_slice sl_tupA (pv 0) (po_some (pe_op (op_addD (by exact ⟨rfl, rfl, rfl⟩)) (pv 1) pe_int)) po_none)))), ?_⟩
  exact (ss_ret (snd_bin (snd_bin (snd_slT1 snd_var snd_var) (snd_tup (snd_cons (snd_c fun _ => .int _) snd_nil) (llen_cons llen_nil) (by decide))) (snd_slT2 snd_var (snd_bin snd_var (snd_c fun _ => .int _)))))
abbrev s_first_uncalm : Stmt := top 43
abbrev N_first_uncalm : List Str := ["whole", "column", "other", "some", "found", "content", "pattern", "second"]
theorem sc_first_uncalm : FnScope N_first_uncalm ["whole"] (defScope s_first_uncalm) := ⟨rfl, rfl, rfl, by decide +kernel, rfl, by decide +kernel, by decide +kernel⟩
noncomputable def dn_first_uncalm (c : Cf) : SDn :=
    (sSeq (sFor (lRng1 (eFn dLen (lCons (eFld (eVar 0) true) lNil))) (gd1 1)
    (sFor (lItemsL (eCall (G_pairs_of c) (lCons (eVar 0) (lCons (eVar 1) lNil)))) (gd2 6 2)
    (sSeq (sAsg 4 (eCall (G_quotients_along c) (lCons (eVar 0) (lCons (eVar 6) (lCons (eVar 2) lNil)))))
    (sSeq (sAsg 3 (eFn dSorted (lCons (eVar 4) lNil)))
    (sFor (lItemsL (eVar 3)) (gd1 5)
    (sFor (lItemsL (eVar 3)) (gd1 7)
    (sIf (bAnd (bOf (eBin dLtU (eVar 5) (eVar 7))) (bOf (eBin dEqX (eCall (G_without c) (lCons (eVar 5) (lCons (eVar 1) lNil))) (eCall (G_without c) (lCons (eVar 7) (lCons (eVar 1) lNil))))))
    (sIf (bOf (eBin dNeU (eBin dIxN (eVar 4) (eVar 5)) (eBin dIxN (eVar 4) (eVar 7))))
    (sRet (eTup (lCons (eVar 1) (lCons (eVar 6) (lCons (eVar 5) (lCons (eVar 7) lNil))))))
    sNext)
    sNext)))))))
    (sRet (eC .non)))
noncomputable abbrev G_first_uncalm (c : Cf) : Fn := fnG 1 8 (dn_first_uncalm c)
theorem ok_first_uncalm {c : Cf} {mg : Str → Option Value} {base : Heap} {f : Addr} {fd : FuncData} (hW : Wf c.K c.C) (hB : Bt mg) (hG : Gc c mg) (h_pairs_of : Df c mg base "pairs_of" 4 (G_pairs_of c)) (h_quotients_along : Df c mg base "quotients_along" 4 (G_quotients_along c)) (h_without : Df c mg base "without" 1 (G_without c)) (F : FnP c.K "first_uncalm" s_first_uncalm f fd) (hm : mg "first_uncalm" = some (.ref f)) : Df c mg base "first_uncalm" 5 (G_first_uncalm c) := by
  refine ⟨f, fd, ["whole"], F.ok sc_first_uncalm (fun vs H Q E h => sp_len h) (fun cdv A outer s H vs Q E hr h => ?_), hm, F.kp, F.bindsN fun _ _ _ _ _ _ us hl => match us, hl with | [_], _ => rfl⟩
  suffices h2 : ∃ t, PSs (cxOf CX0 c.P c.w c.K mg base N_first_uncalm "first_uncalm" (defScope s_first_uncalm) f cdv A outer s H E).nox (defBody s_first_uncalm) t ∧ SndS c (fun _ _ _ _ => False) t (dn_first_uncalm c) by
    obtain ⟨t, h3, h4⟩ := h2
    exact ⟨t, PSs.nox h3, fn_body h4 (by decide) h⟩
  refine ⟨_, (pss_cons (ps_for PassesOwn.never rfl (pi_range1 (by rfl) (by exact hB.range) (pa_cons (pe_callB (call_lenD (by exact ⟨rfl, rfl, rfl⟩)) (by rfl) (by exact hB.len) bb_len (pa_cons (pe_fld (pv 0) rfl) pa_nil)) pa_nil)) (pg_name (i := 1) sc_first_uncalm.nd rfl (Or.inl rfl)) (pss_one (ps_for PassesOwn.never rfl (pi_list (pe_df h_pairs_of (by exact ⟨⟨rfl, rfl, rfl⟩, rfl, rfl⟩) hr (by rfl) (pa_cons (pv 0) (pa_cons (pv 1) pa_nil)))) (pg_tup rfl (pgs_cons (pg_name (i := 6) sc_first_uncalm.nd rfl (Or.inl rfl)) (pgs_cons (pg_name (i := 2) sc_first_uncalm.nd rfl (Or.inl rfl)) pgs_nil))) (pss_cons (ps_set (i := 4) sc_first_uncalm.nd rfl (Or.inl rfl) (pe_df h_quotients_along (by exact ⟨⟨rfl, rfl, rfl⟩, rfl, rfl⟩) hr (by rfl) (pa_cons (pv 0) (pa_cons (pv 6) (pa_cons (pv 2) pa_nil))))) (pss_cons (ps_set (i := 3) sc_first_uncalm.nd rfl (Or.inl rfl) (pe_callB (cr_sortedD (by exact ⟨rfl, rfl, rfl⟩) rfl (by exact hu64 hr)) (by rfl) (by exact hB.sorted) bb_sorted (pa_cons (pv 4) pa_nil))) (pss_one (ps_for PassesOwn.never rfl (pi_list (pv 3)) (pg_name (i := 5) sc_first_uncalm.nd rfl (Or.inl rfl)) (pss_one (ps_for PassesOwn.never rfl (pi_list (pv 3)) (pg_name (i := 7) sc_first_uncalm.nd rfl (Or.inl rfl)) (pss_one (ps_if ((pw_and (pt_cmpR (op_ltU (by exact ⟨rfl, rfl, rfl⟩) (by exact hu64 hr)) (pv 5) (pv 7) (nomark _)) (pw_and1 (pt_cmpR (op_eqX (by exact ⟨rfl, rfl, rfl⟩) (by exact hu64 hr)) (pe_df h_without (by exact ⟨⟨rfl, rfl, rfl⟩, rfl, rfl⟩) hr (by rfl) (pa_cons (pv 5) (pa_cons (pv 1) pa_nil))) (pe_df h_without (by exact ⟨⟨rfl, rfl, rfl⟩, rfl, rfl⟩) hr (by rfl) (pa_cons (pv 7) (pa_cons (pv 1) pa_nil))) (nomark _))))).pt (pss_one (ps_if (pt_cmpR (op_neU (by exact ⟨rfl, rfl, rfl⟩) (by exact hu80 hr)) (pe_ixN (by exact ⟨rfl, rfl, rfl⟩) (by exact hu64 hr) (pv 4) (pv 5) (fun _ _ => rfl)) (pe_ixN (by exact ⟨rfl, rfl, rfl⟩) (by exact hu64 hr) (pv 4) (pv 7) (fun _ _ => rfl)) (nomark _)) (pss_one (ps_ret (pe_tup (pa_cons (pv 1) (pa_cons (pv 6) (pa_cons (pv 5) (pa_cons (pv 7) pa_nil))))))) pss_nil)) pss_nil))))))))))) (pss_one (ps_ret pe_non))), ?_⟩
  exact (ss_seq (ss_for (si_rng1 (snd_fn (snd_cons (snd_sizes hW snd_var) snd_nil))) sg_name (ss_for (si_list (snd_call (snd_cons snd_var (snd_cons snd_var snd_nil)))) sg_two (ss_seq (ss_asg (i := 4) (snd_call (snd_cons snd_var (snd_cons snd_var (snd_cons snd_var snd_nil))))) (ss_seq (ss_asg (i := 3) (snd_fn (snd_cons snd_var snd_nil))) (ss_for (si_list snd_var) sg_name (ss_for (si_list snd_var) sg_name (ss_if (st_and (st_test (snd_bin snd_var snd_var)) (st_test (snd_bin (snd_call (snd_cons snd_var (snd_cons snd_var snd_nil))) (snd_call (snd_cons snd_var (snd_cons snd_var snd_nil)))))) (ss_if (st_test (snd_bin (snd_bin snd_var snd_var) (snd_bin snd_var snd_var))) (ss_ret (snd_tup (snd_cons snd_var (snd_cons snd_var (snd_cons snd_var (snd_cons snd_var snd_nil)))) (llen_cons (llen_cons (llen_cons (llen_cons llen_nil)))) (by decide))) ss_next) ss_next))))))) (ss_ret (snd_c fun _ => .non)))
end Dl
namespace Dl
open PySem PySem.Spec PyProof.Rows L2
abbrev s_law_draw : Stmt := top 49
abbrev N_law_draw : List Str := ["_law_hand_here", "_law_many", "_law_cell", "_law_digit", "_law_number"]
theorem sc_law_draw : FnScope N_law_draw ["_law_hand_here", "_law_many"] (defScope s_law_draw) := ⟨rfl, rfl, rfl, by decide +kernel, rfl, by decide +kernel, by decide +kernel⟩
noncomputable def dn_law_draw (c : Cf) : SDn :=
    (sSeq (sIf (bAnd (bOf (eBin dEqX (eHand (eVar 0) .left) (eC (.int 0)))) (bOf (eBin dLtU (eHand (eVar 0) .at_) (eFn dLen (lCons (eHand (eVar 0) .cells) lNil)))))
    (sSeq (sAsg 2 (eBin dIx (eHand (eVar 0) .cells) (eHand (eVar 0) .at_)))
    (sSeq (sHand (eVar 0) .at_ (eBin dAdd (eHand (eVar 0) .at_) (eC (.int 1))))
    (sSeq (sHand (eVar 0) .seed (eBin dMod (eFn dInt (lCons (eBin dAdd (eBin dAdd (eBin dMul (eHand (eVar 0) .seed) (eC (.int 69621))) (eVar 2)) (eC (.int 11))) lNil)) (eC (.int 2147483629))))
    (sHand (eVar 0) .left (eIf (bOf (eBin dGe (eVar 2) (eBin dPow (eC (.int 10)) (eC (.int 18))))) (eVar 2) (eC (.int 0)))))))
    sNext)
    (sSeq (sIf (bOf (eBin dGt (eHand (eVar 0) .left) (eC (.int 0))))
    (sSeq (sAsg 3 (eBin dMod (eFn dInt (lCons (eHand (eVar 0) .left) lNil)) (eVar 1)))
    (sSeq (sHand (eVar 0) .left (eBin dDiv (eHand (eVar 0) .left) (eVar 1)))
    (sRet (eVar 3))))
    sNext)
    (sSeq (sHand (eVar 0) .turn (eBin dAdd (eHand (eVar 0) .turn) (eC (.int 1))))
    (sSeq (sAsg 4 (eBin dMod (eFn dInt (lCons (eBin dMul (eFn dInt (lCons (eBin dAdd (eHand (eVar 0) .seed) (eBin dMul (eC (.int 7927)) (eHand (eVar 0) .turn))) lNil)) (eC (.int 48271))) lNil)) (eC (.int 2147483647))))
    (sSeq (sAsg 4 (eBin dMod (eFn dInt (lCons (eBin dMul (eVar 4) (eBin dAdd (eBin dDiv (eVar 4) (eC (.int 1013))) (eC (.int 69623)))) lNil)) (eC (.int 2147483587))))
    (sSeq (sAsg 4 (eBin dMod (eFn dInt (lCons (eBin dAdd (eBin dMul (eVar 4) (eBin dAdd (eBin dDiv (eVar 4) (eC (.int 2011))) (eC (.int 40693)))) (eHand (eVar 0) .turn)) lNil)) (eC (.int 2147483399))))
    (sRet (eBin dMod (eFn dInt (lCons (eBin dDiv (eVar 4) (eC (.int 32))) lNil)) (eVar 1)))))))))
noncomputable abbrev G_law_draw (c : Cf) : Fn := fnG 2 5 (dn_law_draw c)
theorem ok_law_draw {c : Cf} {mg : Str → Option Value} {base : Heap} {f : Addr} {fd : FuncData} (hW : Wf c.K c.C) (hB : Bt mg) (hG : Gc c mg) (F : FnP c.K "_law_draw" s_law_draw f fd) (hm : mg "_law_draw" = some (.ref f)) : Df c mg base "_law_draw" 1 (G_law_draw c) := by
  refine ⟨f, fd, ["_law_hand_here", "_law_many"], F.ok sc_law_draw (fun vs H Q E h => sp_len h) (fun cdv A outer s H vs Q E hr h => ?_), hm, F.kp, F.bindsN fun _ _ _ _ _ _ us hl => match us, hl with | [_, _], _ => rfl⟩
  suffices h2 : ∃ t, PSs (cxOf CX0 c.P c.w c.K mg base N_law_draw "_law_draw" (defScope s_law_draw) f cdv A outer s H E).nox (defBody s_law_draw) t ∧ SndS c (fun _ _ _ _ => False) t (dn_law_draw c) by
    obtain ⟨t, h3, h4⟩ := h2
    exact ⟨t, PSs.nox h3, fn_body h4 (by decide) h⟩
  refine ⟨_, (pss_cons (ps_if ((pw_and (pt_cmpR (op_eqX (by exact ⟨rfl, rfl, rfl⟩) (by exact hu64 hr)) (pe_dget (by exact hu1 hr) (pv 0) pe_str (fun _ _ => rfl)) pe_int (nomark _)) (pw_and1 (pt_cmpR (op_ltU (by exact ⟨rfl, rfl, rfl⟩) (by exact hu64 hr)) (pe_dget (by exact hu1 hr) (pv 0) pe_str (fun _ _ => rfl)) (pe_callB (call_lenD (by exact ⟨rfl, rfl, rfl⟩)) (by rfl) (by exact hB.len) bb_len (pa_cons (pe_dget (by exact hu1 hr) (pv 0) pe_str (fun _ _ => rfl)) pa_nil)) (nomark _))))).pt (pss_cons (ps_set (i := 2) sc_law_draw.nd rfl (Or.inl rfl) (pe_ix (ix_D (by exact ⟨rfl, rfl, rfl⟩)) (pe_dget (by exact hu1 hr) (pv 0) pe_str (fun _ _ => rfl)) (pe_dget (by exact hu1 hr) (pv 0) pe_str (fun _ _ => rfl)) (fun _ _ => rfl))) (pss_cons (ps_dput (by exact hu1 hr) (pv 0) pe_str (pe_op (op_addD (by exact ⟨rfl, rfl, rfl⟩)) (pe_dget (by exact hu1 hr) (pv 0) pe_str (fun _ _ => rfl)) pe_int) rfl) (pss_cons (ps_dput (by exact hu1 hr) (pv 0) pe_str (pe_op (op_modD (c := c)) (pe_callTy (call_intD (c := c)) (by rfl) (by exact hB.int) bb_int (pa_cons (pe_op (op_addD (by exact ⟨rfl, rfl, rfl⟩)) (pe_op (op_addD (by exact ⟨rfl, rfl, rfl⟩)) (pe_op (op_mulD (c := c)) (pe_dget (by exact hu1 hr) (pv 0) pe_str (fun _ _ => rfl)) pe_int) (pv 2)) pe_int) pa_nil)) pe_int) rfl) (pss_one (ps_dput (by exact hu1 hr) (pv 0) pe_str (pe_ifExp (pt_cmpR (op_geD (c := c)) (pv 2) (pe_op (op_powD (c := c)) pe_int pe_int) (nomark _)) (pv 2) pe_int) rfl))))) pss_nil) (pss_cons (ps_if (pt_cmpR (op_gtD (c := c)) (pe_dget (by exact hu1 hr) (pv 0) pe_str (fun _ _ => rfl)) pe_int (nomark _)) (pss_cons (ps_set (i := 3) sc_law_draw.nd rfl (Or.inl rfl) (pe_op (op_modD (c := c)) (pe_callTy (call_intD (c := c)) (by rfl) (by exact hB.int) bb_int (pa_cons (pe_dget (by exact hu1 hr) (pv 0) pe_str (fun _ _ => rfl)) pa_nil)) (pv 1))) (pss_cons (ps_dput (by exact hu1 hr) (pv 0) pe_str (pe_op (op_divD (c := c)) (pe_dget (by exact hu1 hr) (pv 0) pe_str (fun _ _ => rfl)) (pv 1)) rfl) (pss_one (ps_ret (pv 3))))) pss_nil) (pss_cons (ps_dput (by exact hu1 hr) (pv 0) pe_str (pe_op (op_addD (by exact ⟨rfl, rfl, rfl⟩)) (pe_dget (by exact hu1 hr) (pv 0) pe_str (fun _ _ => rfl)) pe_int) rfl) (pss_cons (ps_set (i := 4) sc_law_draw.nd rfl (Or.inl rfl) (pe_op (op_modD (c := c)) (pe_callTy (call_intD (c := c)) (by rfl) (by exact hB.int) bb_int (pa_cons (pe_op (op_mulD (c := c)) (pe_callTy (call_intD (c := c)) (by rfl) (by exact hB.int) bb_int (pa_cons (pe_op (op_addD (by exact ⟨rfl, rfl, rfl⟩)) (pe_dget (by exact hu1 hr) (pv 0) pe_str (fun _ _ => rfl)) (pe_op (op_mulD (c := c)) pe_int (pe_dget (by exact hu1 hr) (pv 0) pe_str (fun _ _ => rfl)))) pa_nil)) pe_int) pa_nil)) pe_int)) (pss_cons (ps_set (i := 4) sc_law_draw.nd rfl (Or.inl rfl) (pe_op (op_modD (c := c)) (pe_callTy (call_intD (c := c)) (by rfl) (by exact hB.int) bb_int (pa_cons (pe_op (op_mulD (c := c)) (pv 4) (pe_op (op_addD (by exact ⟨rfl, rfl, rfl⟩)) (pe_op (op_divD (c := c)) (pv 4) pe_int) pe_int)) pa_nil)) pe_int)) (pss_cons (ps_set (i := 4) sc_law_draw.nd rfl (Or.inl rfl) (pe_op (op_modD (c := c)) (pe_callTy (call_intD (c := c)) (by rfl) (by exact hB.int) bb_int (pa_cons (pe_op (op_addD (by exact ⟨rfl, rfl, rfl⟩)) (pe_op (op_mulD (c := c)) (pv 4) (pe_op (op_addD (by exact ⟨rfl, rfl, rfl⟩)) (pe_op (op_divD (c := c)) (pv 4) pe_int) pe_int)) (pe_dget (by exact hu1 hr) (pv 0) pe_str (fun _ _ => rfl))) pa_nil)) pe_int)) (pss_one (ps_ret (pe_op (op_modD (c := c)) (pe_callTy (call_intD (c := c)) (by rfl) (by exact hB.int) bb_int (pa_cons (pe_op (op_divD (c := c)) (pv 4) pe_int) pa_nil)) (pv 1)))))))))), ?_⟩
  exact (ss_seq (ss_if (st_and (st_test (snd_bin (snd_hand (z := .left) snd_var) (snd_c fun _ => .int _))) (st_test (snd_bin (snd_hand (z := .at_) snd_var) (snd_fn (snd_cons (snd_hand (z := .cells) snd_var) snd_nil))))) (ss_seq (ss_asg (i := 2) (snd_bin (snd_hand (z := .cells) snd_var) (snd_hand (z := .at_) snd_var))) (ss_seq (ss_hand (z := .at_) (snd_bin (snd_hand (z := .at_) snd_var) (snd_c fun _ => .int _)) snd_var) (ss_seq (ss_hand (z := .seed) (snd_bin (snd_fn (snd_cons (snd_bin (snd_bin (snd_bin (snd_hand (z := .seed) snd_var) (snd_c fun _ => .int _)) snd_var) (snd_c fun _ => .int _)) snd_nil)) (snd_c fun _ => .int _)) snd_var) (ss_hand (z := .left) (snd_if (st_test (snd_bin snd_var (snd_bin (snd_c fun _ => .int _) (snd_c fun _ => .int _)))) snd_var (snd_c fun _ => .int _)) snd_var)))) ss_next) (ss_seq (ss_if (st_test (snd_bin (snd_hand (z := .left) snd_var) (snd_c fun _ => .int _))) (ss_seq (ss_asg (i := 3) (snd_bin (snd_fn (snd_cons (snd_hand (z := .left) snd_var) snd_nil)) snd_var)) (ss_seq (ss_hand (z := .left) (snd_bin (snd_hand (z := .left) snd_var) snd_var) snd_var) (ss_ret snd_var))) ss_next) (ss_seq (ss_hand (z := .turn) (snd_bin (snd_hand (z := .turn) snd_var) (snd_c fun _ => .int _)) snd_var) (ss_seq (ss_asg (i := 4) (snd_bin (snd_fn (snd_cons (snd_bin (snd_fn (snd_cons (snd_bin (snd_hand (z := .seed) snd_var) (snd_bin (snd_c fun _ => .int _) (snd_hand (z := .turn) snd_var))) snd_nil)) (snd_c fun _ => .int _)) snd_nil)) (snd_c fun _ => .int _))) (ss_seq (ss_asg (i := 4) (snd_bin (snd_fn (snd_cons (snd_bin snd_var (snd_bin (snd_bin snd_var (snd_c fun _ => .int _)) (snd_c fun _ => .int _))) snd_nil)) (snd_c fun _ => .int _))) (ss_seq (ss_asg (i := 4) (snd_bin (snd_fn (snd_cons (snd_bin (snd_bin snd_var (snd_bin (snd_bin snd_var (snd_c fun _ => .int _)) (snd_c fun _ => .int _))) (snd_hand (z := .turn) snd_var)) snd_nil)) (snd_c fun _ => .int _))) (ss_ret (snd_bin (snd_fn (snd_cons (snd_bin snd_var (snd_c fun _ => .int _)) snd_nil)) snd_var))))))))
abbrev s_law_any : Stmt := top 50
abbrev N_law_any : List Str := ["_law_hand_here", "_law_things"]
theorem sc_law_any : FnScope N_law_any ["_law_hand_here", "_law_things"] (defScope s_law_any) := ⟨rfl, rfl, rfl, by decide +kernel, rfl, by decide +kernel, by decide +kernel⟩
noncomputable def dn_law_any (c : Cf) : SDn :=
    (sRet (eBin dIx (eVar 1) (eCall (G_law_draw c) (lCons (eVar 0) (lCons (eFn dLen (lCons (eVar 1) lNil)) lNil)))))
noncomputable abbrev G_law_any (c : Cf) : Fn := fnG 2 2 (dn_law_any c)
theorem ok_law_any {c : Cf} {mg : Str → Option Value} {base : Heap} {f : Addr} {fd : FuncData} (hW : Wf c.K c.C) (hB : Bt mg) (hG : Gc c mg) (h__law_draw : Df c mg base "_law_draw" 1 (G_law_draw c)) (F : FnP c.K "_law_any" s_law_any f fd) (hm : mg "_law_any" = some (.ref f)) : Df c mg base "_law_any" 2 (G_law_any c) := by
  refine ⟨f, fd, ["_law_hand_here", "_law_things"], F.ok sc_law_any (fun vs H Q E h => sp_len h) (fun cdv A outer s H vs Q E hr h => ?_), hm, F.kp, F.bindsN fun _ _ _ _ _ _ us hl => match us, hl with | [_, _], _ => rfl⟩
  suffices h2 : ∃ t, PSs (cxOf CX0 c.P c.w c.K mg base N_law_any "_law_any" (defScope s_law_any) f cdv A outer s H E).nox (defBody s_law_any) t ∧ SndS c (fun _ _ _ _ => False) t (dn_law_any c) by
    obtain ⟨t, h3, h4⟩ := h2
    exact ⟨t, PSs.nox h3, fn_body h4 (by decide) h⟩
  refine ⟨_, (pss_one (ps_ret (pe_ix (ix_D (by exact ⟨rfl, rfl, rfl⟩)) (pv 1) (pe_df h__law_draw (by exact ⟨⟨rfl, rfl, rfl⟩, rfl, rfl⟩) hr (by rfl) (pa_cons (pv 0) (pa_cons (pe_callB (call_lenD (by exact ⟨rfl, rfl, rfl⟩)) (by rfl) (by exact hB.len) bb_len (pa_cons (pv 1) pa_nil)) pa_nil))) (fun _ _ => rfl)))), ?_⟩
  exact (ss_ret (snd_bin snd_var (snd_call (snd_cons snd_var (snd_cons (snd_fn (snd_cons snd_var snd_nil)) snd_nil)))))
abbrev s_law_low : Stmt := top 51
abbrev N_law_low : List Str := ["_law_top", "_law_bottom", "_law_one", "_law_other"]
theorem sc_law_low : FnScope N_law_low ["_law_top", "_law_bottom"] (defScope s_law_low) := ⟨rfl, rfl, rfl, by decide +kernel, rfl, by decide +kernel, by decide +kernel⟩
noncomputable def dn_law_low (c : Cf) : SDn :=
    (sSeq (sPar 2 3 (eVar 0) (eVar 1))
    (sSeq (sWhile (bOf (eBin dGt (eVar 3) (eC (.int 0)))) (sPar 2 3 (eVar 3) (eBin dMod (eFn dInt (lCons (eVar 2) lNil)) (eVar 3))))
    (sRet (eTup (lCons (eBin dDiv (eVar 0) (eVar 2)) (lCons (eBin dDiv (eVar 1) (eVar 2)) lNil))))))
noncomputable abbrev G_law_low (c : Cf) : Fn := fnG 2 4 (dn_law_low c)
theorem ok_law_low {c : Cf} {mg : Str → Option Value} {base : Heap} {f : Addr} {fd : FuncData} (hW : Wf c.K c.C) (hB : Bt mg) (hG : Gc c mg) (F : FnP c.K "_law_low" s_law_low f fd) (hm : mg "_law_low" = some (.ref f)) : Df c mg base "_law_low" 1 (G_law_low c) := by
  refine ⟨f, fd, ["_law_top", "_law_bottom"], F.ok sc_law_low (fun vs H Q E h => sp_len h) (fun cdv A outer s H vs Q E hr h => ?_), hm, F.kp, F.bindsN fun _ _ _ _ _ _ us hl => match us, hl with | [_, _], _ => rfl⟩
  suffices h2 : ∃ t, PSs (cxOf CX0 c.P c.w c.K mg base N_law_low "_law_low" (defScope s_law_low) f cdv A outer s H E).nox (defBody s_law_low) t ∧ SndS c (fun _ _ _ _ => False) t (dn_law_low c) by
    obtain ⟨t, h3, h4⟩ := h2
    exact ⟨t, PSs.nox h3, fn_body h4 (by decide) h⟩
  refine ⟨_, (pss_cons (ps_par (i := 2) (j := 3) rfl sc_law_low.nd rfl rfl (by decide) rfl rfl (pa_cons (pv 0) (pa_cons (pv 1) pa_nil)) rfl) (pss_cons (ps_while PassesOwn.never (pt_cmpR (op_gtD (c := c)) (pv 3) pe_int (nomark _)) (pss_one (ps_par (i := 2) (j := 3) rfl sc_law_low.nd rfl rfl (by decide) rfl rfl (pa_cons (pv 3) (pa_cons (pe_op (op_modD (c := c)) (pe_callTy (call_intD (c := c)) (by rfl) (by exact hB.int) bb_int (pa_cons (pv 2) pa_nil)) (pv 3)) pa_nil)) rfl))) (pss_one (ps_ret (pe_tup (pa_cons (pe_op (op_divD (c := c)) (pv 0) (pv 2)) (pa_cons (pe_op (op_divD (c := c)) (pv 1) (pv 2)) pa_nil))))))), ?_⟩
  exact (ss_seq (ss_par (i := 2) (j := 3) snd_var snd_var) (ss_seq (ss_while (st_test (snd_bin snd_var (snd_c fun _ => .int _))) (ss_par (i := 2) (j := 3) snd_var (snd_bin (snd_fn (snd_cons snd_var snd_nil)) snd_var))) (ss_ret (snd_tup (snd_cons (snd_bin snd_var snd_var) (snd_cons (snd_bin snd_var snd_var) snd_nil)) (llen_cons (llen_cons llen_nil)) (by decide)))))
abbrev s_law_sizes : Stmt := top 52
abbrev N_law_sizes : List Str := ["_law_hand_here", "_law_some"]
theorem sc_law_sizes : FnScope N_law_sizes ["_law_hand_here"] (defScope s_law_sizes) := ⟨rfl, rfl, rfl, by decide +kernel, rfl, by decide +kernel, by decide +kernel⟩
noncomputable def dn_law_sizes (c : Cf) : SDn :=
    (sSeq (sAsg 1 (eLst (lCons (eTup (lCons (eC (.int 2)) lNil)) (lCons (eTup (lCons (eC (.int 3)) lNil)) (lCons (eTup (lCons (eC (.int 4)) lNil)) (lCons (eTup (lCons (eC (.int 2)) (lCons (eC (.int 2)) lNil))) (lCons (eTup (lCons (eC (.int 2)) (lCons (eC (.int 2)) lNil))) (lCons (eTup (lCons (eC (.int 2)) (lCons (eC (.int 2)) lNil))) (lCons (eTup (lCons (eC (.int 2)) (lCons (eC (.int 3)) lNil))) (lCons (eTup (lCons (eC (.int 3)) (lCons (eC (.int 2)) lNil))) (lCons (eTup (lCons (eC (.int 2)) (lCons (eC (.int 3)) lNil))) (lCons (eTup (lCons (eC (.int 3)) (lCons (eC (.int 3)) lNil))) (lCons (eTup (lCons (eC (.int 2)) (lCons (eC (.int 4)) lNil))) (lCons (eTup (lCons (eC (.int 2)) (lCons (eC (.int 2)) (lCons (eC (.int 2)) lNil)))) lNil))))))))))))))
    (sRet (eCall (G_law_any c) (lCons (eVar 0) (lCons (eVar 1) lNil)))))
noncomputable abbrev G_law_sizes (c : Cf) : Fn := fnG 1 2 (dn_law_sizes c)
theorem ok_law_sizes {c : Cf} {mg : Str → Option Value} {base : Heap} {f : Addr} {fd : FuncData} (hW : Wf c.K c.C) (hB : Bt mg) (hG : Gc c mg) (h__law_any : Df c mg base "_law_any" 2 (G_law_any c)) (F : FnP c.K "_law_sizes" s_law_sizes f fd) (hm : mg "_law_sizes" = some (.ref f)) : Df c mg base "_law_sizes" 3 (G_law_sizes c) := by
  refine ⟨f, fd, ["_law_hand_here"], F.ok sc_law_sizes (fun vs H Q E h => sp_len h) (fun cdv A outer s H vs Q E hr h => ?_), hm, F.kp, F.bindsN fun _ _ _ _ _ _ us hl => match us, hl with | [_], _ => rfl⟩
  suffices h2 : ∃ t, PSs (cxOf CX0 c.P c.w c.K mg base N_law_sizes "_law_sizes" (defScope s_law_sizes) f cdv A outer s H E).nox (defBody s_law_sizes) t ∧ SndS c (fun _ _ _ _ => False) t (dn_law_sizes c) by
    obtain ⟨t, h3, h4⟩ := h2
    exact ⟨t, PSs.nox h3, fn_body h4 (by decide) h⟩
  refine ⟨_, (pss_cons (ps_set (i := 1) sc_law_sizes.nd rfl (Or.inl rfl) (pe_lst (pa_cons (pe_tup (pa_cons pe_int pa_nil)) (pa_cons (pe_tup (pa_cons pe_int pa_nil)) (pa_cons (pe_tup (pa_cons pe_int pa_nil)) (pa_cons (pe_tup (pa_cons pe_int (pa_cons pe_int pa_nil))) (pa_cons (pe_tup (pa_cons pe_int (pa_cons pe_int pa_nil))) (pa_cons (pe_tup (pa_cons pe_int (pa_cons pe_int pa_nil))) (pa_cons (pe_tup (pa_cons pe_int (pa_cons pe_int pa_nil))) (pa_cons (pe_tup (pa_cons pe_int (pa_cons pe_int pa_nil))) (pa_cons (pe_tup (pa_cons pe_int (pa_cons pe_int pa_nil))) (pa_cons (pe_tup (pa_cons pe_int (pa_cons pe_int pa_nil))) (pa_cons (pe_tup (pa_cons pe_int (pa_cons pe_int pa_nil))) (pa_cons (pe_tup (pa_cons pe_int (pa_cons pe_int (pa_cons pe_int pa_nil)))) pa_nil)))))))))))))) (pss_one (ps_ret (pe_df h__law_any (by exact ⟨⟨rfl, rfl, rfl⟩, rfl, rfl⟩) hr (by rfl) (pa_cons (pv 0) (pa_cons (pv 1) pa_nil)))))), ?_⟩
  exact (ss_seq (ss_asg (i := 1) (snd_lst (snd_cons (snd_tup (snd_cons (snd_c fun _ => .int _) snd_nil) (llen_cons llen_nil) (by decide)) (snd_cons (snd_tup (snd_cons (snd_c fun _ => .int _) snd_nil) (llen_cons llen_nil) (by decide)) (snd_cons (snd_tup (snd_cons (snd_c fun _ => .int _) snd_nil) (llen_cons llen_nil) (by decide)) (snd_cons (snd_tup (snd_cons (snd_c fun _ => .int _) (snd_cons (snd_c fun _ => .int _) snd_nil)) (llen_cons (llen_cons llen_nil)) (by decide)) (snd_cons (snd_tup (snd_cons (snd_c fun _ => .int _) (snd_cons (snd_c fun _ => .int _) snd_nil)) (llen_cons (llen_cons llen_nil)) (by decide)) (snd_cons (snd_tup (snd_cons (snd_c fun _ => .int _) (snd_cons (snd_c fun _ => .int _) snd_nil)) (llen_cons (llen_cons llen_nil)) (by decide)) (snd_cons (snd_tup (snd_cons (snd_c fun _ => .int _) (snd_cons (snd_c fun _ => .int _) snd_nil)) (llen_cons (llen_cons llen_nil)) (by decide)) (snd_cons (snd_tup (snd_cons (snd_c fun _ => .int _) (snd_cons (snd_c fun _ => .int _) snd_nil)) (llen_cons (llen_cons llen_nil)) (by decide)) (snd_cons (snd_tup (snd_cons (snd_c fun _ => .int _) (snd_cons (snd_c fun _ => .int _) snd_nil)) (llen_cons (llen_cons llen_nil)) (by decide)) (snd_cons (snd_tup (snd_cons (snd_c fun _ => .int _) (snd_cons (snd_c fun _ => .int _) snd_nil)) (llen_cons (llen_cons llen_nil)) (by decide)) (snd_cons (snd_tup (snd_cons (snd_c fun _ => .int _) (snd_cons (snd_c fun _ => .int _) snd_nil)) (llen_cons (llen_cons llen_nil)) (by decide)) (snd_cons (snd_tup (snd_cons (snd_c fun _ => .int _) (snd_cons (snd_c fun _ => .int _) (snd_cons (snd_c fun _ => .int _) snd_nil))) (llen_cons (llen_cons (llen_cons llen_nil))) (by decide)) snd_nil)))))))))))) (llen_cons (llen_cons (llen_cons (llen_cons (llen_cons (llen_cons (llen_cons (llen_cons (llen_cons (llen_cons (llen_cons (llen_cons llen_nil)))))))))))) (by decide))) (ss_ret (snd_call (snd_cons snd_var (snd_cons snd_var snd_nil)))))
abbrev s_law_contents : Stmt := top 53
abbrev N_law_contents : List Str := ["_law_sizes_here", "_law_size", "_law_found", "_law_longer", "_law_front", "_law_worth"]
theorem sc_law_contents : FnScope N_law_contents ["_law_sizes_here"] (defScope s_law_contents) := ⟨rfl, rfl, rfl, by decide +kernel, rfl, by decide +kernel, by decide +kernel⟩
noncomputable def dn_law_contents (c : Cf) : SDn :=
    (sSeq (sAsg 2 (eLst (lCons (eTup lNil) lNil)))
    (sSeq (sFor (lItemsT (eVar 0)) (gd1 1)
    (sSeq (sOwn 3 (.lst []))
    (sSeq (sFor (lItemsL (eVar 2)) (gd1 4)
    (sExt 3 (eComp (lRng1 (eVar 1)) [5] (gd1 5) bYes (eBin dAdd (eVar 4) (eTup (lCons (eVar 5) lNil))))))
    (sG (frzE 3) (sAsg 2 (eVar 3))))))
    (sRet (eVar 2))))
noncomputable abbrev G_law_contents (c : Cf) : Fn := fnG 1 6 (dn_law_contents c)
theorem ok_law_contents {c : Cf} {mg : Str → Option Value} {base : Heap} {f : Addr} {fd : FuncData} (hW : Wf c.K c.C) (hB : Bt mg) (hG : Gc c mg) (F : FnP c.K "_law_contents" s_law_contents f fd) (hm : mg "_law_contents" = some (.ref f)) : Df c mg base "_law_contents" 1 (G_law_contents c) := by
  refine ⟨f, fd, ["_law_sizes_here"], F.ok sc_law_contents (fun vs H Q E h => sp_len h) (fun cdv A outer s H vs Q E hr h => ?_), hm, F.kp, F.bindsN fun _ _ _ _ _ _ us hl => match us, hl with | [_], _ => rfl⟩
  suffices h2 : ∃ t, PSs (cxOf CX0 c.P c.w c.K mg base N_law_contents "_law_contents" (defScope s_law_contents) f cdv A outer s H E).nox (defBody s_law_contents) t ∧ SndS c (fun _ _ _ _ => False) t (dn_law_contents c) by
    obtain ⟨t, h3, h4⟩ := h2
    exact ⟨t, PSs.nox h3, fn_body h4 (by decide) h⟩
  refine ⟨_, (pss_cons (ps_set (i := 2) sc_law_contents.nd rfl (Or.inl rfl) (pe_lst (pa_cons (pe_tup pa_nil) pa_nil))) (pss_cons (ps_for PassesOwn.never rfl (pi_tup (pv 0)) (pg_name (i := 1) sc_law_contents.nd rfl (Or.inl rfl)) (pss_cons (ps_set (i := 3) sc_law_contents.nd rfl (Or.inl rfl) (pe_lst pa_nil)) (pss_cons (ps_for PassesOwn.never rfl (pi_list (pv 2)) (pg_name (i := 4) sc_law_contents.nd rfl (Or.inr rfl)) (pss_one (ps_expr (pe_bm PySem.F.plainAttrs_list PySem.F.slot_list_extend PySem.F.type_list_extend mt_extend (pv 3) (pa_cons (pe_lc (own := [("_law_worth", 5)]) (g := (gName 5)) rfl sc_law_contents.nd (pi_range1 (by rfl) (by exact hB.range) (pa_cons (pv 1) pa_nil)) (blkOk_by (N := N_law_contents) (sc := defScope s_law_contents) (by decide +kernel)) (fun _ _ _ _ _ => (pg_name (i := 5) sc_law_contents.nd rfl (Or.inl rfl))) (fun _ _ _ _ _ => pts_nil) (fun _ _ _ _ _ => (pe_op (op_addD (by exact ⟨rfl, rfl, rfl⟩)) (pv 4) (pe_tup (pa_cons (pv 5) pa_nil))))) pa_nil))))) (pss_one (ps_set (i := 2) sc_law_contents.nd rfl (Or.inl rfl) (pv 3)))))) (pss_one (ps_ret (pv 2))))), ?_⟩
  exact (ss_seq (ss_asg (i := 2) (snd_lst (snd_cons (snd_tup snd_nil llen_nil (by decide)) snd_nil) (llen_cons llen_nil) (by decide))) (ss_seq (ss_for (si_tup snd_var) sg_name (ss_seq (ss_newL (i := 3)) (ss_seq (ss_for (si_list snd_var) sg_name (ss_ext (i := 3) (snd_comp (si_rng1 snd_var) sg_name st_yes (snd_bin snd_var (snd_tup (snd_cons snd_var snd_nil) (llen_cons llen_nil) (by decide)))))) (ss_gh (gh_frz 3) (ss_asg (i := 2) snd_var))))) (ss_ret snd_var)))
abbrev s_law_patterns : Stmt := top 54
abbrev N_law_patterns : List Str := ["_law_many", "_law_found", "_law_column", "_law_lot"]
theorem sc_law_patterns : FnScope N_law_patterns ["_law_many"] (defScope s_law_patterns) := ⟨rfl, rfl, rfl, by decide +kernel, rfl, by decide +kernel, by decide +kernel⟩
noncomputable def dn_law_patterns (c : Cf) : SDn :=
    (sSeq (sAsg 1 (eLst (lCons (eTup lNil) lNil)))
    (sSeq (sFor (lRng1 (eVar 0)) (gd1 2)
    (sAsg 1 (eBin dAdd (eVar 1) (eComp (lItemsL (eVar 1)) [3] (gd1 3) bYes (eBin dAdd (eVar 3) (eTup (lCons (eVar 2) lNil)))))))
    (sRet (eFn dSorted (lCons (eVar 1) lNil)))))
noncomputable abbrev G_law_patterns (c : Cf) : Fn := fnG 1 4 (dn_law_patterns c)
theorem ok_law_patterns {c : Cf} {mg : Str → Option Value} {base : Heap} {f : Addr} {fd : FuncData} (hW : Wf c.K c.C) (hB : Bt mg) (hG : Gc c mg) (F : FnP c.K "_law_patterns" s_law_patterns f fd) (hm : mg "_law_patterns" = some (.ref f)) : Df c mg base "_law_patterns" 1 (G_law_patterns c) := by
  refine ⟨f, fd, ["_law_many"], F.ok sc_law_patterns (fun vs H Q E h => sp_len h) (fun cdv A outer s H vs Q E hr h => ?_), hm, F.kp, F.bindsN fun _ _ _ _ _ _ us hl => match us, hl with | [_], _ => rfl⟩
  suffices h2 : ∃ t, PSs (cxOf CX0 c.P c.w c.K mg base N_law_patterns "_law_patterns" (defScope s_law_patterns) f cdv A outer s H E).nox (defBody s_law_patterns) t ∧ SndS c (fun _ _ _ _ => False) t (dn_law_patterns c) by
    obtain ⟨t, h3, h4⟩ := h2
    exact ⟨t, PSs.nox h3, fn_body h4 (by decide) h⟩
  refine ⟨_, (pss_cons (ps_set (i := 1) sc_law_patterns.nd rfl (Or.inl rfl) (pe_lst (pa_cons (pe_tup pa_nil) pa_nil))) (pss_cons (ps_for PassesOwn.never rfl (pi_range1 (by rfl) (by exact hB.range) (pa_cons (pv 0) pa_nil)) (pg_name (i := 2) sc_law_patterns.nd rfl (Or.inr rfl)) (pss_one (ps_set (i := 1) sc_law_patterns.nd rfl (Or.inl rfl) (pe_op (op_addD (by exact ⟨rfl, rfl, rfl⟩)) (pv 1) (pe_lc (own := [("_law_lot", 3)]) (g := (gName 3)) rfl sc_law_patterns.nd (pi_list (pv 1)) (blkOk_by (N := N_law_patterns) (sc := defScope s_law_patterns) (by decide +kernel)) (fun _ _ _ _ _ => (pg_name (i := 3) sc_law_patterns.nd rfl (Or.inl rfl))) (fun _ _ _ _ _ => pts_nil) (fun _ _ _ _ _ => (pe_op (op_addD (by exact ⟨rfl, rfl, rfl⟩)) (pv 3) (pe_tup (pa_cons (pv 2) pa_nil))))))))) (pss_one (ps_ret (pe_callB (cr_sortedD (by exact ⟨rfl, rfl, rfl⟩) rfl (by exact hu64 hr)) (by rfl) (by exact hB.sorted) bb_sorted (pa_cons (pv 1) pa_nil)))))), ?_⟩
  exact (ss_seq (ss_asg (i := 1) (snd_lst (snd_cons (snd_tup snd_nil llen_nil (by decide)) snd_nil) (llen_cons llen_nil) (by decide))) (ss_seq (ss_for (si_rng1 snd_var) sg_name (ss_asg (i := 1) (snd_bin snd_var (snd_comp (si_list snd_var) sg_name st_yes (snd_bin snd_var (snd_tup (snd_cons snd_var snd_nil) (llen_cons llen_nil) (by decide))))))) (ss_ret (snd_fn (snd_cons snd_var snd_nil)))))
abbrev s_law_view : Stmt := top 55
abbrev N_law_view : List Str := ["_law_content", "_law_pattern", "_law_k"]
theorem sc_law_view : FnScope N_law_view ["_law_content", "_law_pattern"] (defScope s_law_view) := ⟨rfl, rfl, rfl, by decide +kernel, rfl, by decide +kernel, by decide +kernel⟩
noncomputable def dn_law_view (c : Cf) : SDn :=
    (sRet (eFn dTuple (lCons (eComp (lRng1 (eFn dLen (lCons (eVar 0) lNil))) [2] (gd1 2) bYes (eIf (bOf (eBin dIn (eVar 2) (eVar 1))) (eBin dIx (eVar 0) (eVar 2)) (eUn dNeg (eC (.int 1))))) lNil)))
noncomputable abbrev G_law_view (c : Cf) : Fn := fnG 2 3 (dn_law_view c)
theorem ok_law_view {c : Cf} {mg : Str → Option Value} {base : Heap} {f : Addr} {fd : FuncData} (hW : Wf c.K c.C) (hB : Bt mg) (hG : Gc c mg) (F : FnP c.K "_law_view" s_law_view f fd) (hm : mg "_law_view" = some (.ref f)) : Df c mg base "_law_view" 1 (G_law_view c) := by
  refine ⟨f, fd, ["_law_content", "_law_pattern"], F.ok sc_law_view (fun vs H Q E h => sp_len h) (fun cdv A outer s H vs Q E hr h => ?_), hm, F.kp, F.bindsN fun _ _ _ _ _ _ us hl => match us, hl with | [_, _], _ => rfl⟩
  suffices h2 : ∃ t, PSs (cxOf CX0 c.P c.w c.K mg base N_law_view "_law_view" (defScope s_law_view) f cdv A outer s H E).nox (defBody s_law_view) t ∧ SndS c (fun _ _ _ _ => False) t (dn_law_view c) by
    obtain ⟨t, h3, h4⟩ := h2
    exact ⟨t, PSs.nox h3, fn_body h4 (by decide) h⟩
  refine ⟨_, (pss_one (ps_ret (pe_callTy (call_tupleD (by exact ⟨rfl, rfl, rfl⟩)) (by rfl) (by exact hB.tuple) bb_tuple (pa_cons (pe_lc (own := [("_law_k", 2)]) (g := (gName 2)) rfl sc_law_view.nd (pi_range1 (by rfl) (by exact hB.range) (pa_cons (pe_callB (call_lenD (by exact ⟨rfl, rfl, rfl⟩)) (by rfl) (by exact hB.len) bb_len (pa_cons (pv 0) pa_nil)) pa_nil)) (blkOk_by (N := N_law_view) (sc := defScope s_law_view) (by decide +kernel)) (fun _ _ _ _ _ => (pg_name (i := 2) sc_law_view.nd rfl (Or.inl rfl))) (fun _ _ _ _ _ => pts_nil) (fun _ _ _ _ _ => (pe_ifExp (pt_cmpR (op_inDD (by exact ⟨rfl, rfl, rfl⟩) (by exact hu65 hr)) (pv 2) (pv 1) (by rfl)) (pe_ix (ix_D (by exact ⟨rfl, rfl, rfl⟩)) (pv 0) (pv 2) (fun _ _ => rfl)) (pe_un (un_negD (c := c)) pe_int)))) pa_nil)))), ?_⟩
  exact (ss_ret (snd_fn (snd_cons (snd_comp (si_rng1 (snd_fn (snd_cons snd_var snd_nil))) sg_name st_yes (snd_if (st_test (snd_bin snd_var snd_var)) (snd_bin snd_var snd_var) (snd_un (snd_c fun _ => .int _)))) snd_nil)))
abbrev s_law_has_all : Stmt := top 56
abbrev N_law_has_all : List Str := ["_law_pattern", "_law_other", "_law_column"]
theorem sc_law_has_all : FnScope N_law_has_all ["_law_pattern", "_law_other"] (defScope s_law_has_all) := ⟨rfl, rfl, rfl, by decide +kernel, rfl, by decide +kernel, by decide +kernel⟩
noncomputable def dn_law_has_all (c : Cf) : SDn :=
    (sRet (eFn dAll (lCons (eComp (lItemsT (eVar 1)) [2] (gd1 2) bYes (eBin dIn (eVar 2) (eVar 0))) lNil)))
noncomputable abbrev G_law_has_all (c : Cf) : Fn := fnG 2 3 (dn_law_has_all c)
theorem ok_law_has_all {c : Cf} {mg : Str → Option Value} {base : Heap} {f : Addr} {fd : FuncData} (hW : Wf c.K c.C) (hB : Bt mg) (hG : Gc c mg) (F : FnP c.K "_law_has_all" s_law_has_all f fd) (hm : mg "_law_has_all" = some (.ref f)) : Df c mg base "_law_has_all" 1 (G_law_has_all c) := by
  refine ⟨f, fd, ["_law_pattern", "_law_other"], F.ok sc_law_has_all (fun vs H Q E h => sp_len h) (fun cdv A outer s H vs Q E hr h => ?_), hm, F.kp, F.bindsN fun _ _ _ _ _ _ us hl => match us, hl with | [_, _], _ => rfl⟩
  suffices h2 : ∃ t, PSs (cxOf CX0 c.P c.w c.K mg base N_law_has_all "_law_has_all" (defScope s_law_has_all) f cdv A outer s H E).nox (defBody s_law_has_all) t ∧ SndS c (fun _ _ _ _ => False) t (dn_law_has_all c) by
    obtain ⟨t, h3, h4⟩ := h2
    exact ⟨t, PSs.nox h3, fn_body h4 (by decide) h⟩
  refine ⟨_, (pss_one (ps_ret (pe_callB (cr_allD (by exact ⟨rfl, rfl, rfl⟩) rfl) (by rfl) (by exact hB.all) bb_all (pa_cons (pe_lc (own := [("_law_column", 2)]) (g := (gName 2)) rfl sc_law_has_all.nd (pi_tup (pv 1)) (blkOk_by (N := N_law_has_all) (sc := defScope s_law_has_all) (by decide +kernel)) (fun _ _ _ _ _ => (pg_name (i := 2) sc_law_has_all.nd rfl (Or.inl rfl))) (fun _ _ _ _ _ => pts_nil) (fun _ _ _ _ _ => (pe_cmpR (op_inDD (by exact ⟨rfl, rfl, rfl⟩) (by exact hu65 hr)) (pv 2) (pv 0) (by rfl)))) pa_nil)))), ?_⟩
  exact (ss_ret (snd_fn (snd_cons (snd_comp (si_tup snd_var) sg_name st_yes (snd_bin snd_var snd_var)) snd_nil)))
abbrev s_law_rows : Stmt := top 57
abbrev N_law_rows : List Str := ["_law_weights", "_law_total", "_law_key"]
theorem sc_law_rows : FnScope N_law_rows ["_law_weights", "_law_total"] (defScope s_law_rows) := ⟨rfl, rfl, rfl, by decide +kernel, rfl, by decide +kernel, by decide +kernel⟩
noncomputable def dn_law_rows (c : Cf) : SDn :=
    (sRet (eFn dTupleP (lCons (eComp (lItemsL (eFn dSorted (lCons (eVar 0) lNil))) [2] (gd1 2) bYes (eTup (lCons (eVar 2) (lCons (eCall (G_law_low c) (lCons (eBin dIxN (eVar 0) (eVar 2)) (lCons (eVar 1) lNil))) lNil)))) lNil)))
noncomputable abbrev G_law_rows (c : Cf) : Fn := fnG 2 3 (dn_law_rows c)
theorem ok_law_rows {c : Cf} {mg : Str → Option Value} {base : Heap} {f : Addr} {fd : FuncData} (hW : Wf c.K c.C) (hB : Bt mg) (hG : Gc c mg) (h__law_low : Df c mg base "_law_low" 1 (G_law_low c)) (F : FnP c.K "_law_rows" s_law_rows f fd) (hm : mg "_law_rows" = some (.ref f)) : Df c mg base "_law_rows" 2 (G_law_rows c) := by
  refine ⟨f, fd, ["_law_weights", "_law_total"], F.ok sc_law_rows (fun vs H Q E h => sp_len h) (fun cdv A outer s H vs Q E hr h => ?_), hm, F.kp, F.bindsN fun _ _ _ _ _ _ us hl => match us, hl with | [_, _], _ => rfl⟩
  suffices h2 : ∃ t, PSs (cxOf CX0 c.P c.w c.K mg base N_law_rows "_law_rows" (defScope s_law_rows) f cdv A outer s H E).nox (defBody s_law_rows) t ∧ SndS c (fun _ _ _ _ => False) t (dn_law_rows c) by
    obtain ⟨t, h3, h4⟩ := h2
    exact ⟨t, PSs.nox h3, fn_body h4 (by decide) h⟩
  refine ⟨_, (pss_one (ps_ret (pe_callTy (call_tupleP (by exact ⟨rfl, rfl, rfl⟩)) (by rfl) (by exact hB.tuple) bb_tuple (pa_cons (pe_lc (own := [("_law_key", 2)]) (g := (gName 2)) rfl sc_law_rows.nd (pi_list (pe_callB (cr_sortedD (by exact ⟨rfl, rfl, rfl⟩) rfl (by exact hu64 hr)) (by rfl) (by exact hB.sorted) bb_sorted (pa_cons (pv 0) pa_nil))) (blkOk_by (N := N_law_rows) (sc := defScope s_law_rows) (by decide +kernel)) (fun _ _ _ _ _ => (pg_name (i := 2) sc_law_rows.nd rfl (Or.inl rfl))) (fun _ _ _ _ _ => pts_nil) (fun _ _ _ _ _ => (pe_tup (pa_cons (pv 2) (pa_cons (pe_df h__law_low (by exact ⟨⟨rfl, rfl, rfl⟩, rfl, rfl⟩) hr (by rfl) (pa_cons (pe_ixN (by exact ⟨rfl, rfl, rfl⟩) (by exact hu64 hr) (pv 0) (pv 2) (fun _ _ => rfl)) (pa_cons (pv 1) pa_nil))) pa_nil))))) pa_nil)))), ?_⟩
  exact (ss_ret (snd_fn (snd_cons (snd_comp (si_list (snd_fn (snd_cons snd_var snd_nil))) sg_name st_yes (snd_tup (snd_cons snd_var (snd_cons (snd_call (snd_cons (snd_bin snd_var snd_var) (snd_cons snd_var snd_nil))) snd_nil)) (llen_cons (llen_cons llen_nil)) (by decide))) snd_nil)))
abbrev s_law_tops : Stmt := top 58
abbrev N_law_tops : List Str := ["_law_hand_here", "_law_sizes_here", "_law_family", "_law_content", "_law_pattern", "_law_tops_here", "_law_bottoms", "_law_most", "_law_view_here"]
theorem sc_law_tops : FnScope N_law_tops ["_law_hand_here", "_law_sizes_here", "_law_family"] (defScope s_law_tops) := ⟨rfl, rfl, rfl, by decide +kernel, rfl, by decide +kernel, by decide +kernel⟩
noncomputable def dn_law_tops (c : Cf) : SDn :=
    (sSeq (sPar2 5 6)
    (sSeq (sAsg 7 (eIf (bOf (eBin dLtU (eFn dLen (lCons (eVar 2) lNil)) (eC (.int 5)))) (eCall (G_law_any c) (lCons (eVar 0) (lCons (eLst (lCons (eC (.int 2)) (lCons (eC (.int 5)) (lCons (eC (.int 30)) (lCons (eC (.int 1000)) (lCons (eBin dPow (eC (.int 10)) (eC (.int 6))) lNil)))))) lNil))) (eC (.int 7))))
    (sSeq (sFor (lItemsL (eVar 2)) (gd1 4)
    (sSeq (sPut 6 (eVar 4) (eBin dAdd (eC (.int 1)) (eCall (G_law_draw c) (lCons (eVar 0) (lCons (eC (.int 4)) lNil)))))
    (sFor (lItemsL (eCall (G_law_contents c) (lCons (eVar 1) lNil))) (gd1 3)
    (sSeq (sAsg 8 (eCall (G_law_view c) (lCons (eVar 3) (lCons (eVar 4) lNil))))
    (sIf (bOf (ePeek 5 (eBin dNotInN (eVar 8) (eVar 5))))
    (sPut 5 (eVar 8) (eBin dAdd (eC (.int 1)) (eCall (G_law_draw c) (lCons (eVar 0) (lCons (eVar 7) lNil)))))
    sNext)))))
    (sFrz 5 (sFrz 6 (sRet (eTup (lCons (eVar 5) (lCons (eVar 6) lNil)))))))))
noncomputable abbrev G_law_tops (c : Cf) : Fn := fnG 3 9 (dn_law_tops c)
theorem ok_law_tops {c : Cf} {mg : Str → Option Value} {base : Heap} {f : Addr} {fd : FuncData} (hW : Wf c.K c.C) (hB : Bt mg) (hG : Gc c mg) (h__law_any : Df c mg base "_law_any" 2 (G_law_any c)) (h__law_draw : Df c mg base "_law_draw" 1 (G_law_draw c)) (h__law_contents : Df c mg base "_law_contents" 1 (G_law_contents c)) (h__law_view : Df c mg base "_law_view" 1 (G_law_view c)) (F : FnP c.K "_law_tops" s_law_tops f fd) (hm : mg "_law_tops" = some (.ref f)) : Df c mg base "_law_tops" 3 (G_law_tops c) := by
  refine ⟨f, fd, ["_law_hand_here", "_law_sizes_here", "_law_family"], F.ok sc_law_tops (fun vs H Q E h => sp_len h) (fun cdv A outer s H vs Q E hr h => ?_), hm, F.kp, F.bindsN fun _ _ _ _ _ _ us hl => match us, hl with | [_, _, _], _ => rfl⟩
  suffices h2 : ∃ t, PSs (cxOf CX0 c.P c.w c.K mg base N_law_tops "_law_tops" (defScope s_law_tops) f cdv A outer s H E).nox (defBody s_law_tops) t ∧ SndS c (fun _ _ _ _ => False) t (dn_law_tops c) by
    obtain ⟨t, h3, h4⟩ := h2
    exact ⟨t, PSs.nox h3, fn_body h4 (by decide) h⟩
  refine ⟨_, (pss_cons (ps_par (i := 5) (j := 6) rfl sc_law_tops.nd rfl rfl (by decide) rfl rfl (pa_cons (pe_newN (by exact ⟨rfl, rfl, rfl⟩)) (pa_cons (pe_newN (by exact ⟨rfl, rfl, rfl⟩)) pa_nil)) rfl) (pss_cons (ps_set (i := 7) sc_law_tops.nd rfl (Or.inl rfl) (pe_ifExp (pt_cmpR (op_ltU (by exact ⟨rfl, rfl, rfl⟩) (by exact hu64 hr)) (pe_callB (call_lenD (by exact ⟨rfl, rfl, rfl⟩)) (by rfl) (by exact hB.len) bb_len (pa_cons (pv 2) pa_nil)) pe_int (nomark _)) (pe_df h__law_any (by exact ⟨⟨rfl, rfl, rfl⟩, rfl, rfl⟩) hr (by rfl) (pa_cons (pv 0) (pa_cons (pe_lst (pa_cons pe_int (pa_cons pe_int (pa_cons pe_int (pa_cons pe_int (pa_cons (pe_op (op_powD (c := c)) pe_int pe_int) pa_nil)))))) pa_nil))) pe_int)) (pss_cons (ps_for PassesOwn.never rfl (pi_list (pv 2)) (pg_name (i := 4) sc_law_tops.nd rfl (Or.inl rfl)) (pss_cons (ps_asg (pe_op (op_addD (by exact ⟨rfl, rfl, rfl⟩)) pe_int (pe_df h__law_draw (by exact ⟨⟨rfl, rfl, rfl⟩, rfl, rfl⟩) hr (by rfl) (pa_cons (pv 0) (pa_cons pe_int pa_nil)))) (pg_sub (pv 6) (pv 4) (set_N (by exact ⟨rfl, rfl, rfl⟩) (by exact hu64 hr)))) (pss_one (ps_for PassesOwn.never rfl (pi_list (pe_df h__law_contents (by exact ⟨⟨rfl, rfl, rfl⟩, rfl, rfl⟩) hr (by rfl) (pa_cons (pv 1) pa_nil))) (pg_name (i := 3) sc_law_tops.nd rfl (Or.inl rfl)) (pss_cons (ps_set (i := 8) sc_law_tops.nd rfl (Or.inl rfl) (pe_df h__law_view (by exact ⟨⟨rfl, rfl, rfl⟩, rfl, rfl⟩) hr (by rfl) (pa_cons (pv 3) (pa_cons (pv 4) pa_nil)))) (pss_one (ps_if (pt_cmpR (op_notInN (by exact ⟨rfl, rfl, rfl⟩) (by exact hu64 hr)) (pv 8) (pv 5) (by rfl)) (pss_one (ps_asg (pe_op (op_addD (by exact ⟨rfl, rfl, rfl⟩)) pe_int (pe_df h__law_draw (by exact ⟨⟨rfl, rfl, rfl⟩, rfl, rfl⟩) hr (by rfl) (pa_cons (pv 0) (pa_cons (pv 7) pa_nil)))) (pg_sub (pv 5) (pv 8) (set_N (by exact ⟨rfl, rfl, rfl⟩) (by exact hu64 hr))))) pss_nil))))))) (pss_one (ps_frz (c := c) (i := 5) (ps_frz (c := c) (i := 6) (ps_ret (pe_tup (pa_cons (pv 5) (pa_cons (pv 6) pa_nil)))))))))), ?_⟩
  exact (ss_seq (ss_par2 (i := 5) (j := 6)) (ss_seq (ss_asg (i := 7) (snd_if (st_test (snd_bin (snd_fn (snd_cons snd_var snd_nil)) (snd_c fun _ => .int _))) (snd_call (snd_cons snd_var (snd_cons (snd_lst (snd_cons (snd_c fun _ => .int _) (snd_cons (snd_c fun _ => .int _) (snd_cons (snd_c fun _ => .int _) (snd_cons (snd_c fun _ => .int _) (snd_cons (snd_bin (snd_c fun _ => .int _) (snd_c fun _ => .int _)) snd_nil))))) (llen_cons (llen_cons (llen_cons (llen_cons (llen_cons llen_nil))))) (by decide)) snd_nil))) (snd_c fun _ => .int _))) (ss_seq (ss_for (si_list snd_var) sg_name (ss_seq (ss_put (i := 6) (snd_bin (snd_c fun _ => .int _) (snd_call (snd_cons snd_var (snd_cons (snd_c fun _ => .int _) snd_nil)))) snd_var) (ss_for (si_list (snd_call (snd_cons snd_var snd_nil))) sg_name (ss_seq (ss_asg (i := 8) (snd_call (snd_cons snd_var (snd_cons snd_var snd_nil)))) (ss_if (st_test (st_peek (i := 5) (snd_bin snd_var snd_var))) (ss_put (i := 5) (snd_bin (snd_c fun _ => .int _) (snd_call (snd_cons snd_var (snd_cons snd_var snd_nil)))) snd_var) ss_next))))) (ss_frz (i := 5) (ss_frz (i := 6) (ss_ret (snd_tup (snd_cons snd_var (snd_cons snd_var snd_nil)) (llen_cons (llen_cons llen_nil)) (by decide))))))))
abbrev s_law_woven : Stmt := top 59
abbrev N_law_woven : List Str := ["_law_sizes_here", "_law_family", "_law_tops_here", "_law_bottoms", "_law_other", "_law_content", "_law_found", "_law_pattern", "_law_weight"]
theorem sc_law_woven : FnScope N_law_woven ["_law_sizes_here", "_law_family", "_law_tops_here", "_law_bottoms"] (defScope s_law_woven) := ⟨rfl, rfl, rfl, by decide +kernel, rfl, by decide +kernel, by decide +kernel⟩
noncomputable def dn_law_woven (c : Cf) : SDn :=
    (sSeq (sOwn 6 (.dic false []))
    (sSeq (sFor (lItemsL (eCall (G_law_contents c) (lCons (eVar 0) lNil))) (gd1 5)
    (sFor (lItemsL (eVar 1)) (gd1 7)
    (sSeq (sAsg 8 (eC (.int 1)))
    (sSeq (sFor (lItemsL (eVar 1)) (gd1 4)
    (sAsg 8 (eBin dMul (eVar 8) (eIf (bOf (eCall (G_law_has_all c) (lCons (eVar 4) (lCons (eVar 7) lNil)))) (eBin dIxN (eVar 2) (eCall (G_law_view c) (lCons (eVar 5) (lCons (eVar 4) lNil)))) (eBin dIxN (eVar 3) (eVar 4))))))
    (sPut 6 (eTup (lCons (eVar 5) (lCons (eVar 7) lNil))) (eVar 8))))))
    (sFrz 6 (sRet (eVar 6)))))
noncomputable abbrev G_law_woven (c : Cf) : Fn := fnG 4 9 (dn_law_woven c)
theorem ok_law_woven {c : Cf} {mg : Str → Option Value} {base : Heap} {f : Addr} {fd : FuncData} (hW : Wf c.K c.C) (hB : Bt mg) (hG : Gc c mg) (h__law_contents : Df c mg base "_law_contents" 1 (G_law_contents c)) (h__law_has_all : Df c mg base "_law_has_all" 1 (G_law_has_all c)) (h__law_view : Df c mg base "_law_view" 1 (G_law_view c)) (F : FnP c.K "_law_woven" s_law_woven f fd) (hm : mg "_law_woven" = some (.ref f)) : Df c mg base "_law_woven" 2 (G_law_woven c) := by
  refine ⟨f, fd, ["_law_sizes_here", "_law_family", "_law_tops_here", "_law_bottoms"], F.ok sc_law_woven (fun vs H Q E h => sp_len h) (fun cdv A outer s H vs Q E hr h => ?_), hm, F.kp, F.bindsN fun _ _ _ _ _ _ us hl => match us, hl with | [_, _, _, _], _ => rfl⟩
  suffices h2 : ∃ t, PSs (cxOf CX0 c.P c.w c.K mg base N_law_woven "_law_woven" (defScope s_law_woven) f cdv A outer s H E).nox (defBody s_law_woven) t ∧ SndS c (fun _ _ _ _ => False) t (dn_law_woven c) by
    obtain ⟨t, h3, h4⟩ := h2
    exact ⟨t, PSs.nox h3, fn_body h4 (by decide) h⟩
  refine ⟨_, (pss_cons (ps_set (i := 6) sc_law_woven.nd rfl (Or.inl rfl) (pe_newN (by exact ⟨rfl, rfl, rfl⟩))) (pss_cons (ps_for PassesOwn.never rfl (pi_list (pe_df h__law_contents (by exact ⟨⟨rfl, rfl, rfl⟩, rfl, rfl⟩) hr (by rfl) (pa_cons (pv 0) pa_nil))) (pg_name (i := 5) sc_law_woven.nd rfl (Or.inl rfl)) (pss_one (ps_for PassesOwn.never rfl (pi_list (pv 1)) (pg_name (i := 7) sc_law_woven.nd rfl (Or.inl rfl)) (pss_cons (ps_set (i := 8) sc_law_woven.nd rfl (Or.inl rfl) pe_int) (pss_cons (ps_for PassesOwn.never rfl (pi_list (pv 1)) (pg_name (i := 4) sc_law_woven.nd rfl (Or.inl rfl)) (pss_one (ps_set (i := 8) sc_law_woven.nd rfl (Or.inl rfl) (pe_op (op_mulD (c := c)) (pv 8) (pe_ifExp (pt_val (pe_df h__law_has_all (by exact ⟨⟨rfl, rfl, rfl⟩, rfl, rfl⟩) hr (by rfl) (pa_cons (pv 4) (pa_cons (pv 7) pa_nil)))) (pe_ixN (by exact ⟨rfl, rfl, rfl⟩) (by exact hu64 hr) (pv 2) (pe_df h__law_view (by exact ⟨⟨rfl, rfl, rfl⟩, rfl, rfl⟩) hr (by rfl) (pa_cons (pv 5) (pa_cons (pv 4) pa_nil))) (fun _ _ => rfl)) (pe_ixN (by exact ⟨rfl, rfl, rfl⟩) (by exact hu64 hr) (pv 3) (pv 4) (fun _ _ => rfl))))))) (pss_one (ps_asg (pv 8) (pg_sub (pv 6) (pe_tup (pa_cons (pv 5) (pa_cons (pv 7) pa_nil))) (set_N (by exact ⟨rfl, rfl, rfl⟩) (by exact hu64 hr)))))))))) (pss_one (ps_frz (c := c) (i := 6) (ps_ret (pv 6)))))), ?_⟩
  exact (ss_seq (ss_newD (i := 6)) (ss_seq (ss_for (si_list (snd_call (snd_cons snd_var snd_nil))) sg_name (ss_for (si_list snd_var) sg_name (ss_seq (ss_asg (i := 8) (snd_c fun _ => .int _)) (ss_seq (ss_for (si_list snd_var) sg_name (ss_asg (i := 8) (snd_bin snd_var (snd_if (st_val (snd_call (snd_cons snd_var (snd_cons snd_var snd_nil)))) (snd_bin snd_var (snd_call (snd_cons snd_var (snd_cons snd_var snd_nil)))) (snd_bin snd_var snd_var))))) (ss_put (i := 6) snd_var (snd_tup (snd_cons snd_var (snd_cons snd_var snd_nil)) (llen_cons (llen_cons llen_nil)) (by decide))))))) (ss_frz (i := 6) (ss_ret snd_var))))
end Dl
namespace Dl
open PySem PySem.Spec PyProof.Rows L2
abbrev s_law_uncalm : Stmt := top 60
abbrev N_law_uncalm : List Str := ["_law_sizes_here", "_law_family", "_law_weights", "_law_one", "_law_other", "_law_content", "_law_worth", "_law_pattern", "_law_column", "_law_more"]
theorem sc_law_uncalm : FnScope N_law_uncalm ["_law_sizes_here", "_law_family", "_law_weights"] (defScope s_law_uncalm) := ⟨rfl, rfl, rfl, by decide +kernel, rfl, by decide +kernel, by decide +kernel⟩
noncomputable def dn_law_uncalm (c : Cf) : SDn :=
    (sSeq (sFor (lRng1 (eFn dLen (lCons (eVar 0) lNil))) (gd1 8)
    (sG (killE 7) (sFor (lItemsL (eComp (lItemsL (eFn dSorted (lCons (eVar 1) lNil))) [7] (gd1 7) (bOf (eBin dNotIn (eVar 8) (eVar 7))) (eVar 7))) (gd1 7)
    (sSeq (sAsg 9 (eFn dTuple (lCons (eFn dSorted (lCons (eBin dAdd (eVar 7) (eTup (lCons (eVar 8) lNil))) lNil)) lNil)))
    (sFor (lItemsL (eIf (bOf (eBin dIn (eVar 9) (eVar 1))) (eCall (G_law_contents c) (lCons (eVar 0) lNil)) (eLst lNil))) (gd1 5)
    (sFor (lRng2 (eBin dAdd (eBin dIx (eVar 5) (eVar 8)) (eC (.int 1))) (eBin dIx (eVar 0) (eVar 8))) (gd1 6)
    (sSeq (sAsg 4 (eBin dAdd (eBin dAdd (eSlT (eVar 5) none (some (eVar 8))) (eTup (lCons (eVar 6) lNil))) (eSlT (eVar 5) (some (eBin dAdd (eVar 8) (eC (.int 1)))) none)))
    (sSeq (sAsg 3 (eBin dMul (eBin dIxN (eVar 2) (eTup (lCons (eVar 5) (lCons (eVar 7) lNil)))) (eBin dIxN (eVar 2) (eTup (lCons (eVar 4) (lCons (eVar 9) lNil))))))
    (sIf (bOf (eBin dNeU (eVar 3) (eBin dMul (eBin dIxN (eVar 2) (eTup (lCons (eVar 4) (lCons (eVar 7) lNil)))) (eBin dIxN (eVar 2) (eTup (lCons (eVar 5) (lCons (eVar 9) lNil)))))))
    (sRet (eTup (lCons (eVar 8) (lCons (eVar 7) (lCons (eVar 5) (lCons (eVar 4) lNil))))))
    sNext)))))))))
    (sRet (eC .non)))
noncomputable abbrev G_law_uncalm (c : Cf) : Fn := fnG 3 10 (dn_law_uncalm c)
theorem ok_law_uncalm {c : Cf} {mg : Str → Option Value} {base : Heap} {f : Addr} {fd : FuncData} (hW : Wf c.K c.C) (hB : Bt mg) (hG : Gc c mg) (h__law_contents : Df c mg base "_law_contents" 1 (G_law_contents c)) (F : FnP c.K "_law_uncalm" s_law_uncalm f fd) (hm : mg "_law_uncalm" = some (.ref f)) : Df c mg base "_law_uncalm" 2 (G_law_uncalm c) := by
  refine ⟨f, fd, ["_law_sizes_here", "_law_family", "_law_weights"], F.ok sc_law_uncalm (fun vs H Q E h => sp_len h) (fun cdv A outer s H vs Q E hr h => ?_), hm, F.kp, F.bindsN fun _ _ _ _ _ _ us hl => match us, hl with | [_, _, _], _ => rfl⟩
  suffices h2 : ∃ t, PSs (cxOf CX0 c.P c.w c.K mg base N_law_uncalm "_law_uncalm" (defScope s_law_uncalm) f cdv A outer s H E).nox (defBody s_law_uncalm) t ∧ SndS c (fun _ _ _ _ => False) t (dn_law_uncalm c) by
    obtain ⟨t, h3, h4⟩ := h2
    exact ⟨t, PSs.nox h3, fn_body h4 (by decide) h⟩
  refine ⟨_, (pss_cons (ps_for PassesOwn.never rfl (pi_range1 (by rfl) (by exact hB.range) (pa_cons (pe_callB (call_lenD (by exact ⟨rfl, rfl, rfl⟩)) (by rfl) (by exact hB.len) bb_len (pa_cons (pv 0) pa_nil)) pa_nil)) (pg_name (i := 8) sc_law_uncalm.nd rfl (Or.inr rfl)) (pss_one (ps_for PassesOwn.never rfl (pi_list (pe_lc (own := [("_law_pattern", 7)]) (g := (gName 7)) rfl sc_law_uncalm.nd (pi_list (pe_callB (cr_sortedD (by exact ⟨rfl, rfl, rfl⟩) rfl (by exact hu64 hr)) (by rfl) (by exact hB.sorted) bb_sorted (pa_cons (pv 1) pa_nil))) (blkOk_by (N := N_law_uncalm) (sc := defScope s_law_uncalm) (by decide +kernel)) (fun _ _ _ _ _ => (pg_name (i := 7) sc_law_uncalm.nd rfl (Or.inl rfl))) (fun _ _ _ _ _ => pts_one (pt_cmpR (op_notInDD (by exact ⟨rfl, rfl, rfl⟩) (by exact hu65 hr)) (pv 8) (pv 7) (by rfl))) (fun _ _ _ _ _ => (pv 7)))) (pg_name (i := 7) sc_law_uncalm.nd rfl (Or.inl rfl)) (pss_cons (ps_set (i := 9) sc_law_uncalm.nd rfl (Or.inl rfl) (pe_callTy (call_tupleD (by exact ⟨rfl, rfl, rfl⟩)) (by rfl) (by exact hB.tuple) bb_tuple (pa_cons (pe_callB (cr_sortedD (by exact ⟨rfl, rfl, rfl⟩) rfl (by exact hu64 hr)) (by rfl) (by exact hB.sorted) bb_sorted (pa_cons (pe_op (op_addD (by exact ⟨rfl, rfl, rfl⟩)) (pv 7) (pe_tup (pa_cons (pv 8) pa_nil))) pa_nil)) pa_nil))) (pss_one (ps_for PassesOwn.never rfl (pi_list (pe_ifExp (pt_cmpR (op_inDD (by exact ⟨rfl, rfl, rfl⟩) (by exact hu65 hr)) (pv 9) (pv 1) (by rfl)) (pe_df h__law_contents (by exact ⟨⟨rfl, rfl, rfl⟩, rfl, rfl⟩) hr (by rfl) (pa_cons (pv 0) pa_nil)) (pe_lst pa_nil))) (pg_name (i := 5) sc_law_uncalm.nd rfl (Or.inl rfl)) (pss_one (ps_for PassesOwn.never rfl (pi_range2 (by rfl) (by exact hB.range) (pa_cons (pe_op (op_addD (by exact ⟨rfl, rfl, rfl⟩)) (pe_ix (ix_D (by exact ⟨rfl, rfl, rfl⟩)) (pv 5) (pv 8) (fun _ _ => rfl)) pe_int) (pa_cons (pe_ix (ix_D (by exact ⟨rfl, rfl, rfl⟩)) (pv 0) (pv 8) (fun _ _ => rfl)) pa_nil))) (pg_name (i := 6) sc_law_uncalm.nd rfl (Or.inl rfl)) (pss_cons (ps_set (i := 4) sc_law_uncalm.nd rfl (Or.inl rfl) (pe_op (op_addD (by exact ⟨rfl, rfl, rfl⟩)) (pe_op (op_addD (by exact ⟨rfl, rfl, rfl⟩)) (pe_slice sl_tupA (pv 5) po_none (po_some (pv 8))) (pe_tup (pa_cons (pv 6) pa_nil))) (pe_slice sl_tupA (pv 5) (po_some (pe_op (op_addD (by exact ⟨rfl, rfl, rfl⟩)) (pv 8) pe_int)) po_none))) (pss_cons (ps_set (i := 3) sc_law_uncalm.nd rfl (Or.inl rfl) (pe_op (op_mulD (c := c)) (pe_ixN (by exact ⟨rfl, rfl, rfl⟩) (by exact hu64 hr) (pv 2) (pe_tup (pa_cons (pv 5) (pa_cons (pv 7) pa_nil))) (fun _ _ => rfl)) (pe_ixN (by exact ⟨rfl, rfl, rfl⟩) (by exact hu64 hr) (pv 2) (pe_tup (pa_cons (pv 4) (pa_cons (pv 9) pa_nil))) (fun _ _ => rfl)))) (pss_one (ps_if (pt_cmpR (op_neU (by exact ⟨rfl, rfl, rfl⟩) (by exact hu80 hr)) (pv 3) (pe_op (op_mulD (c := c)) (pe_ixN (by exact ⟨rfl, rfl, rfl⟩) (by exact hu64 hr) (pv 2) (pe_tup (pa_cons (pv 4) (pa_cons (pv 7) pa_nil))) (fun _ _ => rfl)) (pe_ixN (by exact ⟨rfl, rfl, rfl⟩) (by exact hu64 hr) (pv 2) (pe_tup (pa_cons (pv 5) (pa_cons (pv 9) pa_nil))) (fun _ _ => rfl))) (nomark _)) (pss_one (ps_ret (pe_tup (pa_cons (pv 8) (pa_cons (pv 7) (pa_cons (pv 5) (pa_cons (pv 4) pa_nil))))))) pss_nil)))))))))))) (pss_one (ps_ret pe_non))), ?_⟩
  exact (ss_seq (ss_for (si_rng1 (snd_fn (snd_cons snd_var snd_nil))) sg_name (ss_gh (gh_kill 7) (ss_for (si_list (snd_comp (si_list (snd_fn (snd_cons snd_var snd_nil))) sg_name (st_test (snd_bin snd_var snd_var)) snd_var)) sg_name (ss_seq (ss_asg (i := 9) (snd_fn (snd_cons (snd_fn (snd_cons (snd_bin snd_var (snd_tup (snd_cons snd_var snd_nil) (llen_cons llen_nil) (by decide))) snd_nil)) snd_nil))) (ss_for (si_list (snd_if (st_test (snd_bin snd_var snd_var)) (snd_call (snd_cons snd_var snd_nil)) (snd_lst snd_nil llen_nil (by decide)))) sg_name (ss_for (si_rng2 (snd_bin (snd_bin snd_var snd_var) (snd_c fun _ => .int _)) (snd_bin snd_var snd_var)) sg_name (ss_seq (ss_asg (i := 4) (snd_bin (snd_bin (snd_slT1 snd_var snd_var) (snd_tup (snd_cons snd_var snd_nil) (llen_cons llen_nil) (by decide))) (snd_slT2 snd_var (snd_bin snd_var (snd_c fun _ => .int _))))) (ss_seq (ss_asg (i := 3) (snd_bin (snd_bin snd_var (snd_tup (snd_cons snd_var (snd_cons snd_var snd_nil)) (llen_cons (llen_cons llen_nil)) (by decide))) (snd_bin snd_var (snd_tup (snd_cons snd_var (snd_cons snd_var snd_nil)) (llen_cons (llen_cons llen_nil)) (by decide))))) (ss_if (st_test (snd_bin snd_var (snd_bin (snd_bin snd_var (snd_tup (snd_cons snd_var (snd_cons snd_var snd_nil)) (llen_cons (llen_cons llen_nil)) (by decide))) (snd_bin snd_var (snd_tup (snd_cons snd_var (snd_cons snd_var snd_nil)) (llen_cons (llen_cons llen_nil)) (by decide)))))) (ss_ret (snd_tup (snd_cons snd_var (snd_cons snd_var (snd_cons snd_var (snd_cons snd_var snd_nil)))) (llen_cons (llen_cons (llen_cons (llen_cons llen_nil)))) (by decide))) ss_next))))))))) (ss_ret (snd_c fun _ => .non)))
abbrev s_law_bent : Stmt := top 61
abbrev N_law_bent : List Str := ["_law_hand_here", "_law_weights", "_law_found", "_law_key", "_law_kind", "_law_keys", "_law_turn"]
theorem sc_law_bent : FnScope N_law_bent ["_law_hand_here", "_law_weights"] (defScope s_law_bent) := ⟨rfl, rfl, rfl, by decide +kernel, rfl, by decide +kernel, by decide +kernel⟩
noncomputable def dn_law_bent (c : Cf) : SDn :=
    (sSeq (sAsg 4 (eCall (G_law_draw c) (lCons (eVar 0) (lCons (eC (.int 6)) lNil))))
    (sSeq (sParO 5 2 (eFn dSorted (lCons (eVar 1) lNil)) (.dic false []))
    (sSeq (sFor (lItemsL (eVar 5)) (gd1 3)
    (sPut 2 (eVar 3) (eIf (bOf (eBin dEqX (eVar 4) (eC (.int 0)))) (eBin dAdd (eC (.int 1)) (eCall (G_law_draw c) (lCons (eVar 0) (lCons (eC (.int 4)) lNil)))) (eBin dIxN (eVar 1) (eVar 3)))))
    (sSeq (sFor (lRng1 (eIf (bOf (eBin dGt (eVar 4) (eC (.int 0)))) (eCall (G_law_any c) (lCons (eVar 0) (lCons (eLst (lCons (eC (.int 0)) (lCons (eC (.int 0)) (lCons (eC (.int 1)) (lCons (eC (.int 1)) (lCons (eC (.int 1)) (lCons (eC (.int 2)) lNil))))))) lNil))) (eC (.int 0)))) (gd1 6)
    (sSeq (sAsg 3 (eCall (G_law_any c) (lCons (eVar 0) (lCons (eVar 5) lNil))))
    (sPut 2 (eVar 3) (eBin dAdd (eBin dMul (ePeek 2 (eBin dIxN (eVar 2) (eVar 3))) (eCall (G_law_any c) (lCons (eVar 0) (lCons (eLst (lCons (eC (.int 2)) (lCons (eC (.int 3)) lNil))) lNil)))) (eCall (G_law_draw c) (lCons (eVar 0) (lCons (eC (.int 2)) lNil)))))))
    (sFrz 2 (sRet (eVar 2)))))))
noncomputable abbrev G_law_bent (c : Cf) : Fn := fnG 2 7 (dn_law_bent c)
theorem ok_law_bent {c : Cf} {mg : Str → Option Value} {base : Heap} {f : Addr} {fd : FuncData} (hW : Wf c.K c.C) (hB : Bt mg) (hG : Gc c mg) (h__law_draw : Df c mg base "_law_draw" 1 (G_law_draw c)) (h__law_any : Df c mg base "_law_any" 2 (G_law_any c)) (F : FnP c.K "_law_bent" s_law_bent f fd) (hm : mg "_law_bent" = some (.ref f)) : Df c mg base "_law_bent" 3 (G_law_bent c) := by
  refine ⟨f, fd, ["_law_hand_here", "_law_weights"], F.ok sc_law_bent (fun vs H Q E h => sp_len h) (fun cdv A outer s H vs Q E hr h => ?_), hm, F.kp, F.bindsN fun _ _ _ _ _ _ us hl => match us, hl with | [_, _], _ => rfl⟩
  suffices h2 : ∃ t, PSs (cxOf CX0 c.P c.w c.K mg base N_law_bent "_law_bent" (defScope s_law_bent) f cdv A outer s H E).nox (defBody s_law_bent) t ∧ SndS c (fun _ _ _ _ => False) t (dn_law_bent c) by
    obtain ⟨t, h3, h4⟩ := h2
    exact ⟨t, PSs.nox h3, fn_body h4 (by decide) h⟩
  refine ⟨_, (pss_cons (ps_set (i := 4) sc_law_bent.nd rfl (Or.inl rfl) (pe_df h__law_draw (by exact ⟨⟨rfl, rfl, rfl⟩, rfl, rfl⟩) hr (by rfl) (pa_cons (pv 0) (pa_cons pe_int pa_nil)))) (pss_cons (ps_par (i := 5) (j := 2) rfl sc_law_bent.nd rfl rfl (by decide) rfl rfl (pa_cons (pe_callB (cr_sortedD (by exact ⟨rfl, rfl, rfl⟩) rfl (by exact hu64 hr)) (by rfl) (by exact hB.sorted) bb_sorted (pa_cons (pv 1) pa_nil)) (pa_cons (pe_newN (by exact ⟨rfl, rfl, rfl⟩)) pa_nil)) rfl) (pss_cons (ps_for PassesOwn.never rfl (pi_list (pv 5)) (pg_name (i := 3) sc_law_bent.nd rfl (Or.inl rfl)) (pss_one (ps_asg (pe_ifExp (pt_cmpR (op_eqX (by exact ⟨rfl, rfl, rfl⟩) (by exact hu64 hr)) (pv 4) pe_int (nomark _)) (pe_op (op_addD (by exact ⟨rfl, rfl, rfl⟩)) pe_int (pe_df h__law_draw (by exact ⟨⟨rfl, rfl, rfl⟩, rfl, rfl⟩) hr (by rfl) (pa_cons (pv 0) (pa_cons pe_int pa_nil)))) (pe_ixN (by exact ⟨rfl, rfl, rfl⟩) (by exact hu64 hr) (pv 1) (pv 3) (fun _ _ => rfl))) (pg_sub (pv 2) (pv 3) (set_N (by exact ⟨rfl, rfl, rfl⟩) (by exact hu64 hr)))))) (pss_cons (ps_for PassesOwn.never rfl (pi_range1 (by rfl) (by exact hB.range) (pa_cons (pe_ifExp (pt_cmpR (op_gtD (c := c)) (pv 4) pe_int (nomark _)) (pe_df h__law_any (by exact ⟨⟨rfl, rfl, rfl⟩, rfl, rfl⟩) hr (by rfl) (pa_cons (pv 0) (pa_cons (pe_lst (pa_cons pe_int (pa_cons pe_int (pa_cons pe_int (pa_cons pe_int (pa_cons pe_int (pa_cons pe_int pa_nil))))))) pa_nil))) pe_int) pa_nil)) (pg_name (i := 6) sc_law_bent.nd rfl (Or.inl rfl)) (pss_cons (ps_set (i := 3) sc_law_bent.nd rfl (Or.inl rfl) (pe_df h__law_any (by exact ⟨⟨rfl, rfl, rfl⟩, rfl, rfl⟩) hr (by rfl) (pa_cons (pv 0) (pa_cons (pv 5) pa_nil)))) (pss_one (ps_asg (pe_op (op_addD (by exact ⟨rfl, rfl, rfl⟩)) (pe_op (op_mulD (c := c)) (pe_ixN (by exact ⟨rfl, rfl, rfl⟩) (by exact hu64 hr) (pv 2) (pv 3) (fun _ _ => rfl)) (pe_df h__law_any (by exact ⟨⟨rfl, rfl, rfl⟩, rfl, rfl⟩) hr (by rfl) (pa_cons (pv 0) (pa_cons (pe_lst (pa_cons pe_int (pa_cons pe_int pa_nil))) pa_nil)))) (pe_df h__law_draw (by exact ⟨⟨rfl, rfl, rfl⟩, rfl, rfl⟩) hr (by rfl) (pa_cons (pv 0) (pa_cons pe_int pa_nil)))) (pg_sub (pv 2) (pv 3) (set_N (by exact ⟨rfl, rfl, rfl⟩) (by exact hu64 hr))))))) (pss_one (ps_frz (c := c) (i := 2) (ps_ret (pv 2)))))))), ?_⟩
  exact (ss_seq (ss_asg (i := 4) (snd_call (snd_cons snd_var (snd_cons (snd_c fun _ => .int _) snd_nil)))) (ss_seq (ss_parD (i := 5) (j := 2) (snd_fn (snd_cons snd_var snd_nil))) (ss_seq (ss_for (si_list snd_var) sg_name (ss_put (i := 2) (snd_if (st_test (snd_bin snd_var (snd_c fun _ => .int _))) (snd_bin (snd_c fun _ => .int _) (snd_call (snd_cons snd_var (snd_cons (snd_c fun _ => .int _) snd_nil)))) (snd_bin snd_var snd_var)) snd_var)) (ss_seq (ss_for (si_rng1 (snd_if (st_test (snd_bin snd_var (snd_c fun _ => .int _))) (snd_call (snd_cons snd_var (snd_cons (snd_lst (snd_cons (snd_c fun _ => .int _) (snd_cons (snd_c fun _ => .int _) (snd_cons (snd_c fun _ => .int _) (snd_cons (snd_c fun _ => .int _) (snd_cons (snd_c fun _ => .int _) (snd_cons (snd_c fun _ => .int _) snd_nil)))))) (llen_cons (llen_cons (llen_cons (llen_cons (llen_cons (llen_cons llen_nil)))))) (by decide)) snd_nil))) (snd_c fun _ => .int _))) sg_name (ss_seq (ss_asg (i := 3) (snd_call (snd_cons snd_var (snd_cons snd_var snd_nil)))) (ss_put (i := 2) (snd_bin (snd_bin (st_peek (i := 2) (snd_bin snd_var snd_var)) (snd_call (snd_cons snd_var (snd_cons (snd_lst (snd_cons (snd_c fun _ => .int _) (snd_cons (snd_c fun _ => .int _) snd_nil)) (llen_cons (llen_cons llen_nil)) (by decide)) snd_nil)))) (snd_call (snd_cons snd_var (snd_cons (snd_c fun _ => .int _) snd_nil)))) snd_var))) (ss_frz (i := 2) (ss_ret snd_var))))))
abbrev s_law_great_sizes : Stmt := top 62
abbrev N_law_great_sizes : List Str := ["_law_hand_here"]
theorem sc_law_great_sizes : FnScope N_law_great_sizes ["_law_hand_here"] (defScope s_law_great_sizes) := ⟨rfl, rfl, rfl, by decide +kernel, rfl, by decide +kernel, by decide +kernel⟩
noncomputable def dn_law_great_sizes (c : Cf) : SDn :=
    (sRet (eCall (G_law_any c) (lCons (eVar 0) (lCons (eLst (lCons (eTup (lCons (eC (.int 4)) (lCons (eC (.int 4)) (lCons (eC (.int 4)) lNil)))) (lCons (eTup (lCons (eC (.int 4)) (lCons (eC (.int 4)) (lCons (eC (.int 2)) (lCons (eC (.int 2)) lNil))))) (lCons (eTup (lCons (eC (.int 3)) (lCons (eC (.int 4)) (lCons (eC (.int 4)) lNil)))) (lCons (eTup (lCons (eC (.int 2)) (lCons (eC (.int 4)) (lCons (eC (.int 2)) (lCons (eC (.int 4)) lNil))))) (lCons (eTup (lCons (eC (.int 4)) (lCons (eC (.int 4)) (lCons (eC (.int 3)) lNil)))) (lCons (eTup (lCons (eC (.int 2)) (lCons (eC (.int 2)) (lCons (eC (.int 2)) (lCons (eC (.int 2)) lNil))))) (lCons (eTup (lCons (eC (.int 2)) (lCons (eC (.int 2)) (lCons (eC (.int 2)) (lCons (eC (.int 2)) lNil))))) lNil)))))))) lNil))))
noncomputable abbrev G_law_great_sizes (c : Cf) : Fn := fnG 1 1 (dn_law_great_sizes c)
theorem ok_law_great_sizes {c : Cf} {mg : Str → Option Value} {base : Heap} {f : Addr} {fd : FuncData} (hW : Wf c.K c.C) (hB : Bt mg) (hG : Gc c mg) (h__law_any : Df c mg base "_law_any" 2 (G_law_any c)) (F : FnP c.K "_law_great_sizes" s_law_great_sizes f fd) (hm : mg "_law_great_sizes" = some (.ref f)) : Df c mg base "_law_great_sizes" 3 (G_law_great_sizes c) := by
  refine ⟨f, fd, ["_law_hand_here"], F.ok sc_law_great_sizes (fun vs H Q E h => sp_len h) (fun cdv A outer s H vs Q E hr h => ?_), hm, F.kp, F.bindsN fun _ _ _ _ _ _ us hl => match us, hl with | [_], _ => rfl⟩
  suffices h2 : ∃ t, PSs (cxOf CX0 c.P c.w c.K mg base N_law_great_sizes "_law_great_sizes" (defScope s_law_great_sizes) f cdv A outer s H E).nox (defBody s_law_great_sizes) t ∧ SndS c (fun _ _ _ _ => False) t (dn_law_great_sizes c) by
    obtain ⟨t, h3, h4⟩ := h2
    exact ⟨t, PSs.nox h3, fn_body h4 (by decide) h⟩
  refine ⟨_, (pss_one (ps_ret (pe_df h__law_any (by exact ⟨⟨rfl, rfl, rfl⟩, rfl, rfl⟩) hr (by rfl) (pa_cons (pv 0) (pa_cons (pe_lst (pa_cons (pe_tup (pa_cons pe_int (pa_cons pe_int (pa_cons pe_int pa_nil)))) (pa_cons (pe_tup (pa_cons pe_int (pa_cons pe_int (pa_cons pe_int (pa_cons pe_int pa_nil))))) (pa_cons (pe_tup (pa_cons pe_int (pa_cons pe_int (pa_cons pe_int pa_nil)))) (pa_cons (pe_tup (pa_cons pe_int (pa_cons pe_int (pa_cons pe_int (pa_cons pe_int pa_nil))))) (pa_cons (pe_tup (pa_cons pe_int (pa_cons pe_int (pa_cons pe_int pa_nil)))) (pa_cons (pe_tup (pa_cons pe_int (pa_cons pe_int (pa_cons pe_int (pa_cons pe_int pa_nil))))) (pa_cons (pe_tup (pa_cons pe_int (pa_cons pe_int (pa_cons pe_int (pa_cons pe_int pa_nil))))) pa_nil)))))))) pa_nil))))), ?_⟩
  exact (ss_ret (snd_call (snd_cons snd_var (snd_cons (snd_lst (snd_cons (snd_tup (snd_cons (snd_c fun _ => .int _) (snd_cons (snd_c fun _ => .int _) (snd_cons (snd_c fun _ => .int _) snd_nil))) (llen_cons (llen_cons (llen_cons llen_nil))) (by decide)) (snd_cons (snd_tup (snd_cons (snd_c fun _ => .int _) (snd_cons (snd_c fun _ => .int _) (snd_cons (snd_c fun _ => .int _) (snd_cons (snd_c fun _ => .int _) snd_nil)))) (llen_cons (llen_cons (llen_cons (llen_cons llen_nil)))) (by decide)) (snd_cons (snd_tup (snd_cons (snd_c fun _ => .int _) (snd_cons (snd_c fun _ => .int _) (snd_cons (snd_c fun _ => .int _) snd_nil))) (llen_cons (llen_cons (llen_cons llen_nil))) (by decide)) (snd_cons (snd_tup (snd_cons (snd_c fun _ => .int _) (snd_cons (snd_c fun _ => .int _) (snd_cons (snd_c fun _ => .int _) (snd_cons (snd_c fun _ => .int _) snd_nil)))) (llen_cons (llen_cons (llen_cons (llen_cons llen_nil)))) (by decide)) (snd_cons (snd_tup (snd_cons (snd_c fun _ => .int _) (snd_cons (snd_c fun _ => .int _) (snd_cons (snd_c fun _ => .int _) snd_nil))) (llen_cons (llen_cons (llen_cons llen_nil))) (by decide)) (snd_cons (snd_tup (snd_cons (snd_c fun _ => .int _) (snd_cons (snd_c fun _ => .int _) (snd_cons (snd_c fun _ => .int _) (snd_cons (snd_c fun _ => .int _) snd_nil)))) (llen_cons (llen_cons (llen_cons (llen_cons llen_nil)))) (by decide)) (snd_cons (snd_tup (snd_cons (snd_c fun _ => .int _) (snd_cons (snd_c fun _ => .int _) (snd_cons (snd_c fun _ => .int _) (snd_cons (snd_c fun _ => .int _) snd_nil)))) (llen_cons (llen_cons (llen_cons (llen_cons llen_nil)))) (by decide)) snd_nil))))))) (llen_cons (llen_cons (llen_cons (llen_cons (llen_cons (llen_cons (llen_cons llen_nil))))))) (by decide)) snd_nil))))
abbrev s_law_some_pairs : Stmt := top 63
abbrev N_law_some_pairs : List Str := ["_law_hand_here", "_law_sizes_here", "_law_found", "_law_pattern", "_law_column", "_law_turn", "_law_every", "_law_one"]
theorem sc_law_some_pairs : FnScope N_law_some_pairs ["_law_hand_here", "_law_sizes_here"] (defScope s_law_some_pairs) := ⟨rfl, rfl, rfl, by decide +kernel, rfl, by decide +kernel, by decide +kernel⟩
noncomputable def dn_law_some_pairs (c : Cf) : SDn :=
    (sSeq (sParO 6 2 (eCall (G_law_patterns c) (lCons (eFn dLen (lCons (eVar 1) lNil)) lNil)) (.lst []))
    (sSeq (sIf (bOf (eBin dEqX (eVar 1) (eTup (lCons (eC (.int 2)) (lCons (eC (.int 2)) (lCons (eC (.int 2)) (lCons (eC (.int 2)) lNil)))))))
    (sRet (eVar 6))
    sNext)
    (sSeq (sFor (lRng1 (eBin dAdd (eC (.int 1)) (eCall (G_law_draw c) (lCons (eVar 0) (lCons (eC (.int 2)) lNil))))) (gd1 5)
    (sSeq (sAsg 3 (eCall (G_law_any c) (lCons (eVar 0) (lCons (eComp (lItemsL (eVar 6)) [7] (gd1 7) (bOf (eBin dLtU (eFn dLen (lCons (eVar 7) lNil)) (eFn dLen (lCons (eVar 1) lNil)))) (eVar 7)) lNil))))
    (sSeq (sAsg 4 (eCall (G_law_any c) (lCons (eVar 0) (lCons (eComp (lRng1 (eFn dLen (lCons (eVar 1) lNil))) [7] (gd1 7) (bOf (eBin dNotIn (eVar 7) (eVar 3))) (eVar 7)) lNil))))
    (sExt 2 (eLst (lCons (eVar 3) (lCons (eFn dTuple (lCons (eFn dSorted (lCons (eBin dAdd (eVar 3) (eTup (lCons (eVar 4) lNil))) lNil)) lNil)) lNil)))))))
    (sG (frzE 2) (sRet (eFn dSortedS (lCons (eFn dSet (lCons (eVar 2) lNil)) lNil)))))))
noncomputable abbrev G_law_some_pairs (c : Cf) : Fn := fnG 2 8 (dn_law_some_pairs c)
theorem ok_law_some_pairs {c : Cf} {mg : Str → Option Value} {base : Heap} {f : Addr} {fd : FuncData} (hW : Wf c.K c.C) (hB : Bt mg) (hG : Gc c mg) (h__law_patterns : Df c mg base "_law_patterns" 1 (G_law_patterns c)) (h__law_draw : Df c mg base "_law_draw" 1 (G_law_draw c)) (h__law_any : Df c mg base "_law_any" 2 (G_law_any c)) (F : FnP c.K "_law_some_pairs" s_law_some_pairs f fd) (hm : mg "_law_some_pairs" = some (.ref f)) : Df c mg base "_law_some_pairs" 3 (G_law_some_pairs c) := by
  refine ⟨f, fd, ["_law_hand_here", "_law_sizes_here"], F.ok sc_law_some_pairs (fun vs H Q E h => sp_len h) (fun cdv A outer s H vs Q E hr h => ?_), hm, F.kp, F.bindsN fun _ _ _ _ _ _ us hl => match us, hl with | [_, _], _ => rfl⟩
  suffices h2 : ∃ t, PSs (cxOf CX0 c.P c.w c.K mg base N_law_some_pairs "_law_some_pairs" (defScope s_law_some_pairs) f cdv A outer s H E).nox (defBody s_law_some_pairs) t ∧ SndS c (fun _ _ _ _ => False) t (dn_law_some_pairs c) by
    obtain ⟨t, h3, h4⟩ := h2
    exact ⟨t, PSs.nox h3, fn_body h4 (by decide) h⟩
  refine ⟨_, (pss_cons (ps_par (i := 6) (j := 2) rfl sc_law_some_pairs.nd rfl rfl (by decide) rfl rfl (pa_cons (pe_df h__law_patterns (by exact ⟨⟨rfl, rfl, rfl⟩, rfl, rfl⟩) hr (by rfl) (pa_cons (pe_callB (call_lenD (by exact ⟨rfl, rfl, rfl⟩)) (by rfl) (by exact hB.len) bb_len (pa_cons (pv 1) pa_nil)) pa_nil)) (pa_cons (pe_lst pa_nil) pa_nil)) rfl) (pss_cons (ps_if (pt_cmpR (op_eqX (by exact ⟨rfl, rfl, rfl⟩) (by exact hu64 hr)) (pv 1) (pe_tup (pa_cons pe_int (pa_cons pe_int (pa_cons pe_int (pa_cons pe_int pa_nil))))) (nomark _)) (pss_one (ps_ret (pv 6))) pss_nil) (pss_cons (ps_for PassesOwn.never rfl (pi_range1 (by rfl) (by exact hB.range) (pa_cons (pe_op (op_addD (by exact ⟨rfl, rfl, rfl⟩)) pe_int (pe_df h__law_draw (by exact ⟨⟨rfl, rfl, rfl⟩, rfl, rfl⟩) hr (by rfl) (pa_cons (pv 0) (pa_cons pe_int pa_nil)))) pa_nil)) (pg_name (i := 5) sc_law_some_pairs.nd rfl (Or.inl rfl)) (pss_cons (ps_set (i := 3) sc_law_some_pairs.nd rfl (Or.inr rfl) (pe_df h__law_any (by exact ⟨⟨rfl, rfl, rfl⟩, rfl, rfl⟩) hr (by rfl) (pa_cons (pv 0) (pa_cons (pe_lc (own := [("_law_one", 7)]) (g := (gName 7)) rfl sc_law_some_pairs.nd (pi_list (pv 6)) (blkOk_by (N := N_law_some_pairs) (sc := defScope s_law_some_pairs) (by decide +kernel)) (fun _ _ _ _ _ => (pg_name (i := 7) sc_law_some_pairs.nd rfl (Or.inl rfl))) (fun _ _ _ _ _ => pts_one (pt_cmpR (op_ltU (by exact ⟨rfl, rfl, rfl⟩) (by exact hu64 hr)) (pe_callB (call_lenD (by exact ⟨rfl, rfl, rfl⟩)) (by rfl) (by exact hB.len) bb_len (pa_cons (pv 7) pa_nil)) (pe_callB (call_lenD (by exact ⟨rfl, rfl, rfl⟩)) (by rfl) (by exact hB.len) bb_len (pa_cons (pv 1) pa_nil)) (nomark _))) (fun _ _ _ _ _ => (pv 7))) pa_nil)))) (pss_cons (ps_set (i := 4) sc_law_some_pairs.nd rfl (Or.inl rfl) (pe_df h__law_any (by exact ⟨⟨rfl, rfl, rfl⟩, rfl, rfl⟩) hr (by rfl) (pa_cons (pv 0) (pa_cons (pe_lc (own := [("_law_one", 7)]) (g := (gName 7)) rfl sc_law_some_pairs.nd (pi_range1 (by rfl) (by exact hB.range) (pa_cons (pe_callB (call_lenD (by exact ⟨rfl, rfl, rfl⟩)) (by rfl) (by exact hB.len) bb_len (pa_cons (pv 1) pa_nil)) pa_nil)) (blkOk_by (N := N_law_some_pairs) (sc := defScope s_law_some_pairs) (by decide +kernel)) (fun _ _ _ _ _ => (pg_name (i := 7) sc_law_some_pairs.nd rfl (Or.inl rfl))) (fun _ _ _ _ _ => pts_one (pt_cmpR (op_notInDD (by exact ⟨rfl, rfl, rfl⟩) (by exact hu65 hr)) (pv 7) (pv 3) (by rfl))) (fun _ _ _ _ _ => (pv 7))) pa_nil)))) (pss_one (ps_expr (pe_bm PySem.F.plainAttrs_list PySem.F.slot_list_extend PySem.F.type_list_extend mt_extend (pv 2) (pa_cons (pe_lst (pa_cons (pv 3) (pa_cons (pe_callTy (call_tupleD (by exact ⟨rfl, rfl, rfl⟩)) (by rfl) (by exact hB.tuple) bb_tuple (pa_cons (pe_callB (cr_sortedD (by exact ⟨rfl, rfl, rfl⟩) rfl (by exact hu64 hr)) (by rfl) (by exact hB.sorted) bb_sorted (pa_cons (pe_op (op_addD (by exact ⟨rfl, rfl, rfl⟩)) (pv 3) (pe_tup (pa_cons (pv 4) pa_nil))) pa_nil)) pa_nil)) pa_nil))) pa_nil))))))) (pss_one (ps_ret (pe_callB (cr_sortedS (by exact ⟨rfl, rfl, rfl⟩) rfl (by exact hu64 hr)) (by rfl) (by exact hB.sorted) bb_sorted (pa_cons (pe_callTy (cr_setD (by exact ⟨rfl, rfl, rfl⟩) rfl (by exact hu64 hr)) (by rfl) (by exact hB.set) bb_set (pa_cons (pv 2) pa_nil)) pa_nil))))))), ?_⟩
  exact (ss_seq (ss_parL (i := 6) (j := 2) (snd_call (snd_cons (snd_fn (snd_cons snd_var snd_nil)) snd_nil))) (ss_seq (ss_if (st_test (snd_bin snd_var (snd_tup (snd_cons (snd_c fun _ => .int _) (snd_cons (snd_c fun _ => .int _) (snd_cons (snd_c fun _ => .int _) (snd_cons (snd_c fun _ => .int _) snd_nil)))) (llen_cons (llen_cons (llen_cons (llen_cons llen_nil)))) (by decide)))) (ss_ret snd_var) ss_next) (ss_seq (ss_for (si_rng1 (snd_bin (snd_c fun _ => .int _) (snd_call (snd_cons snd_var (snd_cons (snd_c fun _ => .int _) snd_nil))))) sg_name (ss_seq (ss_asg (i := 3) (snd_call (snd_cons snd_var (snd_cons (snd_comp (si_list snd_var) sg_name (st_test (snd_bin (snd_fn (snd_cons snd_var snd_nil)) (snd_fn (snd_cons snd_var snd_nil)))) snd_var) snd_nil)))) (ss_seq (ss_asg (i := 4) (snd_call (snd_cons snd_var (snd_cons (snd_comp (si_rng1 (snd_fn (snd_cons snd_var snd_nil))) sg_name (st_test (snd_bin snd_var snd_var)) snd_var) snd_nil)))) (ss_ext (i := 2) (snd_lst (snd_cons snd_var (snd_cons (snd_fn (snd_cons (snd_fn (snd_cons (snd_bin snd_var (snd_tup (snd_cons snd_var snd_nil) (llen_cons llen_nil) (by decide))) snd_nil)) snd_nil)) snd_nil)) (llen_cons (llen_cons llen_nil)) (by decide)))))) (ss_gh (gh_frz 2) (ss_ret (snd_fn (snd_cons (snd_fn (snd_cons snd_var snd_nil)) snd_nil)))))))
abbrev s_law_bent_once : Stmt := top 64
abbrev N_law_bent_once : List Str := ["_law_hand_here", "_law_weights", "_law_one", "_law_found", "_law_key", "_law_greater"]
theorem sc_law_bent_once : FnScope N_law_bent_once ["_law_hand_here", "_law_weights"] (defScope s_law_bent_once) := ⟨rfl, rfl, rfl, by decide +kernel, rfl, by decide +kernel, by decide +kernel⟩
noncomputable def dn_law_bent_once (c : Cf) : SDn :=
    (sSeq (sParO 4 3 (eCall (G_law_any c) (lCons (eVar 0) (lCons (eFn dSorted (lCons (eVar 1) lNil)) lNil))) (.dic false []))
    (sSeq (sAsg 5 (eCall (G_law_any c) (lCons (eVar 0) (lCons (eLst (lCons (eC (.int 0)) (lCons (eC (.int 1)) (lCons (eC (.int 1)) lNil)))) lNil))))
    (sSeq (sFor (lItemsK (eVar 1)) (gd1 2)
    (sPut 3 (eVar 2) (eBin dMul (eBin dIxN (eVar 1) (eVar 2)) (eBin dAdd (eC (.int 1)) (eBin dMul (eVar 5) (eFn dInt (lCons (eBin dEqX (eVar 2) (eVar 4)) lNil)))))))
    (sFrz 3 (sRet (eVar 3))))))
noncomputable abbrev G_law_bent_once (c : Cf) : Fn := fnG 2 6 (dn_law_bent_once c)
theorem ok_law_bent_once {c : Cf} {mg : Str → Option Value} {base : Heap} {f : Addr} {fd : FuncData} (hW : Wf c.K c.C) (hB : Bt mg) (hG : Gc c mg) (h__law_any : Df c mg base "_law_any" 2 (G_law_any c)) (F : FnP c.K "_law_bent_once" s_law_bent_once f fd) (hm : mg "_law_bent_once" = some (.ref f)) : Df c mg base "_law_bent_once" 3 (G_law_bent_once c) := by
  refine ⟨f, fd, ["_law_hand_here", "_law_weights"], F.ok sc_law_bent_once (fun vs H Q E h => sp_len h) (fun cdv A outer s H vs Q E hr h => ?_), hm, F.kp, F.bindsN fun _ _ _ _ _ _ us hl => match us, hl with | [_, _], _ => rfl⟩
  suffices h2 : ∃ t, PSs (cxOf CX0 c.P c.w c.K mg base N_law_bent_once "_law_bent_once" (defScope s_law_bent_once) f cdv A outer s H E).nox (defBody s_law_bent_once) t ∧ SndS c (fun _ _ _ _ => False) t (dn_law_bent_once c) by
    obtain ⟨t, h3, h4⟩ := h2
    exact ⟨t, PSs.nox h3, fn_body h4 (by decide) h⟩
  refine ⟨_, (pss_cons (ps_par (i := 4) (j := 3) rfl sc_law_bent_once.nd rfl rfl (by decide) rfl rfl (pa_cons (pe_df h__law_any (by exact ⟨⟨rfl, rfl, rfl⟩, rfl, rfl⟩) hr (by rfl) (pa_cons (pv 0) (pa_cons (pe_callB (cr_sortedD (by exact ⟨rfl, rfl, rfl⟩) rfl (by exact hu64 hr)) (by rfl) (by exact hB.sorted) bb_sorted (pa_cons (pv 1) pa_nil)) pa_nil))) (pa_cons (pe_newN (by exact ⟨rfl, rfl, rfl⟩)) pa_nil)) rfl) (pss_cons (ps_set (i := 5) sc_law_bent_once.nd rfl (Or.inl rfl) (pe_df h__law_any (by exact ⟨⟨rfl, rfl, rfl⟩, rfl, rfl⟩) hr (by rfl) (pa_cons (pv 0) (pa_cons (pe_lst (pa_cons pe_int (pa_cons pe_int (pa_cons pe_int pa_nil)))) pa_nil)))) (pss_cons (ps_for PassesOwn.never rfl (pi_keysN (c := c) (pv 1)) (pg_name (i := 2) sc_law_bent_once.nd rfl (Or.inl rfl)) (pss_one (ps_asg (pe_op (op_mulD (c := c)) (pe_ixN (by exact ⟨rfl, rfl, rfl⟩) (by exact hu64 hr) (pv 1) (pv 2) (fun _ _ => rfl)) (pe_op (op_addD (by exact ⟨rfl, rfl, rfl⟩)) pe_int (pe_op (op_mulD (c := c)) (pv 5) (pe_callTy (call_intD (c := c)) (by rfl) (by exact hB.int) bb_int (pa_cons (pe_cmpR (op_eqX (by exact ⟨rfl, rfl, rfl⟩) (by exact hu64 hr)) (pv 2) (pv 4) (nomark _)) pa_nil))))) (pg_sub (pv 3) (pv 2) (set_N (by exact ⟨rfl, rfl, rfl⟩) (by exact hu64 hr)))))) (pss_one (ps_frz (c := c) (i := 3) (ps_ret (pv 3))))))), ?_⟩
  exact (ss_seq (ss_parD (i := 4) (j := 3) (snd_call (snd_cons snd_var (snd_cons (snd_fn (snd_cons snd_var snd_nil)) snd_nil)))) (ss_seq (ss_asg (i := 5) (snd_call (snd_cons snd_var (snd_cons (snd_lst (snd_cons (snd_c fun _ => .int _) (snd_cons (snd_c fun _ => .int _) (snd_cons (snd_c fun _ => .int _) snd_nil))) (llen_cons (llen_cons (llen_cons llen_nil))) (by decide)) snd_nil)))) (ss_seq (ss_for (si_keysN snd_var) sg_name (ss_put (i := 3) (snd_bin (snd_bin snd_var snd_var) (snd_bin (snd_c fun _ => .int _) (snd_bin snd_var (snd_fn (snd_cons (snd_bin snd_var snd_var) snd_nil))))) snd_var)) (ss_frz (i := 3) (ss_ret snd_var)))))
abbrev s_law_any_family : Stmt := top 65
abbrev N_law_any_family : List Str := ["_law_hand_here", "_law_many", "_law_found", "_law_most", "_law_every", "_law_pattern"]
theorem sc_law_any_family : FnScope N_law_any_family ["_law_hand_here", "_law_many"] (defScope s_law_any_family) := ⟨rfl, rfl, rfl, by decide +kernel, rfl, by decide +kernel, by decide +kernel⟩
noncomputable def dn_law_any_family (c : Cf) : SDn :=
    (sSeq (sAsgG (eTup (lCons (eCall (G_law_patterns c) (lCons (eVar 1) lNil)) (lCons (eCall (G_law_any c) (lCons (eVar 0) (lCons (eLst (lCons (eC (.int 1)) (lCons (eC (.int 2)) (lCons (eC (.int 2)) (lCons (eC (.int 2)) lNil))))) lNil))) lNil))) (gd2 4 3))
    (sSeq (sAsg 2 (eComp (lItemsL (eVar 4)) [5] (gd1 5) (bOf (eBin dLtU (eCall (G_law_draw c) (lCons (eVar 0) (lCons (eC (.int 3)) lNil))) (eVar 3))) (eVar 5)))
    (sRet (eIf (bOf (eBin dGt (eFn dLen (lCons (eVar 2) lNil)) (eC (.int 0)))) (eVar 2) (eLst (lCons (eCall (G_law_any c) (lCons (eVar 0) (lCons (eVar 4) lNil))) lNil))))))
noncomputable abbrev G_law_any_family (c : Cf) : Fn := fnG 2 6 (dn_law_any_family c)
theorem ok_law_any_family {c : Cf} {mg : Str → Option Value} {base : Heap} {f : Addr} {fd : FuncData} (hW : Wf c.K c.C) (hB : Bt mg) (hG : Gc c mg) (h__law_patterns : Df c mg base "_law_patterns" 1 (G_law_patterns c)) (h__law_any : Df c mg base "_law_any" 2 (G_law_any c)) (h__law_draw : Df c mg base "_law_draw" 1 (G_law_draw c)) (F : FnP c.K "_law_any_family" s_law_any_family f fd) (hm : mg "_law_any_family" = some (.ref f)) : Df c mg base "_law_any_family" 3 (G_law_any_family c) := by
  refine ⟨f, fd, ["_law_hand_here", "_law_many"], F.ok sc_law_any_family (fun vs H Q E h => sp_len h) (fun cdv A outer s H vs Q E hr h => ?_), hm, F.kp, F.bindsN fun _ _ _ _ _ _ us hl => match us, hl with | [_, _], _ => rfl⟩
  suffices h2 : ∃ t, PSs (cxOf CX0 c.P c.w c.K mg base N_law_any_family "_law_any_family" (defScope s_law_any_family) f cdv A outer s H E).nox (defBody s_law_any_family) t ∧ SndS c (fun _ _ _ _ => False) t (dn_law_any_family c) by
    obtain ⟨t, h3, h4⟩ := h2
    exact ⟨t, PSs.nox h3, fn_body h4 (by decide) h⟩
  refine ⟨_, (pss_cons (ps_asg (pe_tup (pa_cons (pe_df h__law_patterns (by exact ⟨⟨rfl, rfl, rfl⟩, rfl, rfl⟩) hr (by rfl) (pa_cons (pv 1) pa_nil)) (pa_cons (pe_df h__law_any (by exact ⟨⟨rfl, rfl, rfl⟩, rfl, rfl⟩) hr (by rfl) (pa_cons (pv 0) (pa_cons (pe_lst (pa_cons pe_int (pa_cons pe_int (pa_cons pe_int (pa_cons pe_int pa_nil))))) pa_nil))) pa_nil))) (pg_tup rfl (pgs_cons (pg_name (i := 4) sc_law_any_family.nd rfl (Or.inl rfl)) (pgs_cons (pg_name (i := 3) sc_law_any_family.nd rfl (Or.inr rfl)) pgs_nil)))) (pss_cons (ps_setLc (own := [("_law_pattern", 5)]) (g := (gName 5)) (i := 2) rfl sc_law_any_family.nd rfl rfl (sw_true rfl rfl rfl (by decide +kernel)) (pi_list (pv 4)) (blkOk_by (N := N_law_any_family) (sc := defScope s_law_any_family) (by decide +kernel)) (fun _ _ _ _ _ => (pg_name (i := 5) sc_law_any_family.nd rfl (Or.inl rfl))) (fun _ _ _ _ _ => pts_one (pt_cmpR (op_ltU (by exact ⟨rfl, rfl, rfl⟩) (by exact hu64 hr)) (pe_df h__law_draw (by exact ⟨⟨rfl, rfl, rfl⟩, rfl, rfl⟩) hr (by rfl) (pa_cons (pv 0) (pa_cons pe_int pa_nil))) (pv 3) (nomark _))) (fun _ _ _ _ _ => (pv 5))) (pss_one (ps_ret (pe_ifExp (pt_cmpR (op_gtD (c := c)) (pe_callB (call_lenD (by exact ⟨rfl, rfl, rfl⟩)) (by rfl) (by exact hB.len) bb_len (pa_cons (pv 2) pa_nil)) pe_int (nomark _)) (pv 2) (pe_lst (pa_cons (pe_df h__law_any (by exact ⟨⟨rfl, rfl, rfl⟩, rfl, rfl⟩) hr (by rfl) (pa_cons (pv 0) (pa_cons (pv 4) pa_nil))) pa_nil))))))), ?_⟩
  exact (ss_seq (ss_asgG (snd_tup (snd_cons (snd_call (snd_cons snd_var snd_nil)) (snd_cons (snd_call (snd_cons snd_var (snd_cons (snd_lst (snd_cons (snd_c fun _ => .int _) (snd_cons (snd_c fun _ => .int _) (snd_cons (snd_c fun _ => .int _) (snd_cons (snd_c fun _ => .int _) snd_nil)))) (llen_cons (llen_cons (llen_cons (llen_cons llen_nil)))) (by decide)) snd_nil))) snd_nil)) (llen_cons (llen_cons llen_nil)) (by decide)) sg_two) (ss_seq (ss_asg (i := 2) (snd_comp (si_list snd_var) sg_name (st_test (snd_bin (snd_call (snd_cons snd_var (snd_cons (snd_c fun _ => .int _) snd_nil))) snd_var)) snd_var)) (ss_ret (snd_if (st_test (snd_bin (snd_fn (snd_cons snd_var snd_nil)) (snd_c fun _ => .int _))) snd_var (snd_lst (snd_cons (snd_call (snd_cons snd_var (snd_cons snd_var snd_nil))) snd_nil) (llen_cons llen_nil) (by decide))))))
abbrev s_law_is_column : Stmt := top 67
abbrev N_law_is_column : List Str := ["_law_thing", "_law_many"]
theorem sc_law_is_column : FnScope N_law_is_column ["_law_thing", "_law_many"] (defScope s_law_is_column) := ⟨rfl, rfl, rfl, by decide +kernel, rfl, by decide +kernel, by decide +kernel⟩
noncomputable def dn_law_is_column (c : Cf) : SDn :=
    (sRet (eB (bAnd (bOf (eFn (dIsi c) (lCons (eVar 0) (lCons (eC (.ty "int")) lNil)))) (bOf (eB (bAnd (bOf (eB (bNot (bOf (eFn (dIsi c) (lCons (eVar 0) (lCons (eC (.ty "bool")) lNil))))))) (bOf (eChain dLe dLtU (eC (.int 0)) (eVar 0) (eVar 1)))))))))
noncomputable abbrev G_law_is_column (c : Cf) : Fn := fnG 2 2 (dn_law_is_column c)
theorem ok_law_is_column {c : Cf} {mg : Str → Option Value} {base : Heap} {f : Addr} {fd : FuncData} (hW : Wf c.K c.C) (hB : Bt mg) (hG : Gc c mg) (F : FnP c.K "_law_is_column" s_law_is_column f fd) (hm : mg "_law_is_column" = some (.ref f)) : Df c mg base "_law_is_column" 1 (G_law_is_column c) := by
  refine ⟨f, fd, ["_law_thing", "_law_many"], F.ok sc_law_is_column (fun vs H Q E h => sp_len h) (fun cdv A outer s H vs Q E hr h => ?_), hm, F.kp, F.bindsN fun _ _ _ _ _ _ us hl => match us, hl with | [_, _], _ => rfl⟩
  suffices h2 : ∃ t, PSs (cxOf CX0 c.P c.w c.K mg base N_law_is_column "_law_is_column" (defScope s_law_is_column) f cdv A outer s H E).nox (defBody s_law_is_column) t ∧ SndS c (fun _ _ _ _ => False) t (dn_law_is_column c) by
    obtain ⟨t, h3, h4⟩ := h2
    exact ⟨t, PSs.nox h3, fn_body h4 (by decide) h⟩
  refine ⟨_, (pss_one (ps_ret (pe_and (pe_callB (call_isiD (by exact ⟨rfl, rfl, rfl⟩) hW) (by rfl) (by exact hB.isinstance) bb_isinstance (pa_cons (pv 0) (pa_cons (pe_ty (by exact hB.int) bb_int (by rfl)) pa_nil))) (pe_and (pe_not (pe_callB (call_isiD (by exact ⟨rfl, rfl, rfl⟩) hW) (by rfl) (by exact hB.isinstance) bb_isinstance (pa_cons (pv 0) (pa_cons (pe_ty (by exact hB.bool) bb_bool (by rfl)) pa_nil)))) (pe_one (pe_chain (op_leD (c := c)) (op_ltU (by exact ⟨rfl, rfl, rfl⟩) (by exact hu64 hr)) pe_int (pv 0) (pv 1))))))), ?_⟩
  exact (ss_ret (snd_andV (snd_fn (snd_cons snd_var (snd_cons (snd_c fun _ => .ty _) snd_nil))) (snd_andV (snd_notV (snd_fn (snd_cons snd_var (snd_cons (snd_c fun _ => .ty _) snd_nil)))) (snd_chain (snd_c fun _ => .int _) snd_var snd_var))))
abbrev s_law_due : Stmt := top 68
abbrev N_law_due : List Str := ["_law_sizes_here", "_law_family", "_law_weights", "_law_column", "_law_pattern", "_law_content", "_law_found", "_law_key", "_law_more", "_law_bad", "_law_item"]
theorem sc_law_due : FnScope N_law_due ["_law_sizes_here", "_law_family", "_law_weights", "_law_column", "_law_pattern"] (defScope s_law_due) := ⟨rfl, rfl, rfl, by decide +kernel, rfl, by decide +kernel, by decide +kernel⟩
noncomputable def dn_law_due (c : Cf) : SDn :=
    (sSeq (sIf (bNot (bOf (eCall (G_law_is_column c) (lCons (eVar 3) (lCons (eFn dLen (lCons (eVar 0) lNil)) lNil)))))
    (sRet (eTup (lCons (eC (.str "refused")) (lCons (eC (.str "column")) (lCons (eC .non) lNil)))))
    sNext)
    (sSeq (sIf (bOr (bNot (bOf (eFn (dIsi c) (lCons (eVar 4) (lCons (eC (.ty "tuple")) lNil))))) (bNot (bOf (eFn dAll (lCons (eComp (lItemsT (eVar 4)) [10] (gd1 10) bYes (eCall (G_law_is_column c) (lCons (eVar 10) (lCons (eFn dLen (lCons (eVar 0) lNil)) lNil)))) lNil)))))
    (sRet (eTup (lCons (eC (.str "refused")) (lCons (eC (.str "pattern")) (lCons (eC .non) lNil)))))
    sNext)
    (sSeq (sAsg 8 (eFn dTuple (lCons (eFn dSorted (lCons (eBin dAdd (eVar 4) (eTup (lCons (eVar 3) lNil))) lNil)) lNil)))
    (sSeq (sIf (bOr (bOf (eBin dNotIn (eVar 4) (eVar 1))) (bOr (bOf (eBin dIn (eVar 3) (eVar 4))) (bOf (eBin dNotIn (eVar 8) (eVar 1)))))
    (sRet (eTup (lCons (eC (.str "refused")) (lCons (eC (.str "pattern")) (lCons (eC .non) lNil)))))
    sNext)
    (sSeq (sAsg 9 (eCall (G_law_uncalm c) (lCons (eVar 0) (lCons (eVar 1) (lCons (eVar 2) lNil)))))
    (sSeq (sIf (bOf (eBin dIsNot (eVar 9) (eC .non)))
    (sRet (eTup (lCons (eC (.str "refused")) (lCons (eC (.str "calm")) (lCons (eBin dIx (eVar 9) (eC (.int 0))) lNil)))))
    sNext)
    (sSeq (sOwn 6 (.dic false []))
    (sSeq (sFor (lItemsL (eCall (G_law_contents c) (lCons (eVar 0) lNil))) (gd1 5)
    (sSeq (sAsg 7 (eBin dAdd (eBin dAdd (eSlT (eVar 5) none (some (eVar 3))) (eTup (lCons (eUn dNeg (eC (.int 1))) lNil))) (eSlT (eVar 5) (some (eBin dAdd (eVar 3) (eC (.int 1)))) none)))
    (sPut 6 (eVar 7) (eCall (G_law_low c) (lCons (eBin dIxN (eVar 2) (eTup (lCons (eVar 5) (lCons (eVar 4) lNil)))) (lCons (eBin dIxN (eVar 2) (eTup (lCons (eVar 5) (lCons (eVar 8) lNil)))) lNil))))))
    (sFrz 6 (sRet (eTup (lCons (eC (.str "told")) (lCons (eVar 6) lNil)))))))))))))
noncomputable abbrev G_law_due (c : Cf) : Fn := fnG 5 11 (dn_law_due c)
theorem ok_law_due {c : Cf} {mg : Str → Option Value} {base : Heap} {f : Addr} {fd : FuncData} (hW : Wf c.K c.C) (hB : Bt mg) (hG : Gc c mg) (h__law_is_column : Df c mg base "_law_is_column" 1 (G_law_is_column c)) (h__law_uncalm : Df c mg base "_law_uncalm" 2 (G_law_uncalm c)) (h__law_contents : Df c mg base "_law_contents" 1 (G_law_contents c)) (h__law_low : Df c mg base "_law_low" 1 (G_law_low c)) (F : FnP c.K "_law_due" s_law_due f fd) (hm : mg "_law_due" = some (.ref f)) : Df c mg base "_law_due" 3 (G_law_due c) := by
  refine ⟨f, fd, ["_law_sizes_here", "_law_family", "_law_weights", "_law_column", "_law_pattern"], F.ok sc_law_due (fun vs H Q E h => sp_len h) (fun cdv A outer s H vs Q E hr h => ?_), hm, F.kp, F.bindsN fun _ _ _ _ _ _ us hl => match us, hl with | [_, _, _, _, _], _ => rfl⟩
  suffices h2 : ∃ t, PSs (cxOf CX0 c.P c.w c.K mg base N_law_due "_law_due" (defScope s_law_due) f cdv A outer s H E).nox (defBody s_law_due) t ∧ SndS c (fun _ _ _ _ => False) t (dn_law_due c) by
    obtain ⟨t, h3, h4⟩ := h2
    exact ⟨t, PSs.nox h3, fn_body h4 (by decide) h⟩
  refine ⟨_, (pss_cons (ps_if (pt_not (pt_val (pe_df h__law_is_column (by exact ⟨⟨rfl, rfl, rfl⟩, rfl, rfl⟩) hr (by rfl) (pa_cons (pv 3) (pa_cons (pe_callB (call_lenD (by exact ⟨rfl, rfl, rfl⟩)) (by rfl) (by exact hB.len) bb_len (pa_cons (pv 0) pa_nil)) pa_nil))))) (pss_one (ps_ret (pe_tup (pa_cons pe_str (pa_cons pe_str (pa_cons pe_non pa_nil)))))) pss_nil) (pss_cons (ps_if ((pw_or (pt_not (pt_val (pe_callB (call_isiD (by exact ⟨rfl, rfl, rfl⟩) hW) (by rfl) (by exact hB.isinstance) bb_isinstance (pa_cons (pv 4) (pa_cons (pe_ty (by exact hB.tuple) bb_tuple (by rfl)) pa_nil))))) (pw_or1 (pt_not (pt_val (pe_callB (cr_allD (by exact ⟨rfl, rfl, rfl⟩) rfl) (by rfl) (by exact hB.all) bb_all (pa_cons (pe_lc (own := [("_law_item", 10)]) (g := (gName 10)) rfl sc_law_due.nd (pi_tup (pv 4)) (blkOk_by (N := N_law_due) (sc := defScope s_law_due) (by decide +kernel)) (fun _ _ _ _ _ => (pg_name (i := 10) sc_law_due.nd rfl (Or.inl rfl))) (fun _ _ _ _ _ => pts_nil) (fun _ _ _ _ _ => (pe_df h__law_is_column (by exact ⟨⟨rfl, rfl, rfl⟩, rfl, rfl⟩) hr (by rfl) (pa_cons (pv 10) (pa_cons (pe_callB (call_lenD (by exact ⟨rfl, rfl, rfl⟩)) (by rfl) (by exact hB.len) bb_len (pa_cons (pv 0) pa_nil)) pa_nil))))) pa_nil))))))).pt (pss_one (ps_ret (pe_tup (pa_cons pe_str (pa_cons pe_str (pa_cons pe_non pa_nil)))))) pss_nil) (pss_cons (ps_set (i := 8) sc_law_due.nd rfl (Or.inl rfl) (pe_callTy (call_tupleD (by exact ⟨rfl, rfl, rfl⟩)) (by rfl) (by exact hB.tuple) bb_tuple (pa_cons (pe_callB (cr_sortedD (by exact ⟨rfl, rfl, rfl⟩) rfl (by exact hu64 hr)) (by rfl) (by exact hB.sorted) bb_sorted (pa_cons (pe_op (op_addD (by exact ⟨rfl, rfl, rfl⟩)) (pv 4) (pe_tup (pa_cons (pv 3) pa_nil))) pa_nil)) pa_nil))) (pss_cons (ps_if ((pw_or (pt_cmpR (op_notInDD (by exact ⟨rfl, rfl, rfl⟩) (by exact hu65 hr)) (pv 4) (pv 1) (by rfl)) (pw_or (pt_cmpR (op_inDD (by exact ⟨rfl, rfl, rfl⟩) (by exact hu65 hr)) (pv 3) (pv 4) (by rfl)) (pw_or1 (pt_cmpR (op_notInDD (by exact ⟨rfl, rfl, rfl⟩) (by exact hu65 hr)) (pv 8) (pv 1) (by rfl)))))).pt (pss_one (ps_ret (pe_tup (pa_cons pe_str (pa_cons pe_str (pa_cons pe_non pa_nil)))))) pss_nil) (pss_cons (ps_set (i := 9) sc_law_due.nd rfl (Or.inl rfl) (pe_df h__law_uncalm (by exact ⟨⟨rfl, rfl, rfl⟩, rfl, rfl⟩) hr (by rfl) (pa_cons (pv 0) (pa_cons (pv 1) (pa_cons (pv 2) pa_nil))))) (pss_cons (ps_if (pt_cmpR (op_isNotD (c := c)) (pv 9) pe_non (nomark _)) (pss_one (ps_ret (pe_tup (pa_cons pe_str (pa_cons pe_str (pa_cons (pe_ix (ix_D (by exact ⟨rfl, rfl, rfl⟩)) (pv 9) pe_int (fun _ _ => rfl)) pa_nil)))))) pss_nil) (pss_cons (ps_set (i := 6) sc_law_due.nd rfl (Or.inl rfl) (pe_newN (by exact ⟨rfl, rfl, rfl⟩))) (pss_cons (ps_for PassesOwn.never rfl (pi_list (pe_df h__law_contents (by exact ⟨⟨rfl, rfl, rfl⟩, rfl, rfl⟩) hr (by rfl) (pa_cons (pv 0) pa_nil))) (pg_name (i := 5) sc_law_due.nd rfl (Or.inl rfl)) (pss_cons (ps_set (i := 7) sc_law_due.nd rfl (Or.inl rfl) (pe_op (op_addD (by exact ⟨rfl, rfl, rfl⟩)) (pe_op (op_addD (by exact ⟨rfl, rfl, rfl⟩)) (pe_slice sl_tupA (pv 5) po_none (po_some (pv 3))) (pe_tup (pa_cons (pe_un (un_negD (c := c)) pe_int) pa_nil))) (pe_slice sl_tupA (pv 5) (po_some (pe_op (op_addD (by exact ⟨rfl, rfl, rfl⟩)) (pv 3) pe_int)) po_none))) (pss_one (ps_asg (pe_df h__law_low (by exact ⟨⟨rfl, rfl, rfl⟩, rfl, rfl⟩) hr (by rfl) (pa_cons (pe_ixN (by exact ⟨rfl, rfl, rfl⟩) (by exact hu64 hr) (pv 2) (pe_tup (pa_cons (pv 5) (pa_cons (pv 4) pa_nil))) (fun _ _ => rfl)) (pa_cons (pe_ixN (by exact ⟨rfl, rfl, rfl⟩) (by exact hu64 hr) (pv 2) (pe_tup (pa_cons (pv 5) (pa_cons (pv 8) pa_nil))) (fun _ _ => rfl)) pa_nil))) (pg_sub (pv 6) (pv 7) (set_N (by exact ⟨rfl, rfl, rfl⟩) (by exact hu64 hr))))))) (pss_one (ps_frz (c := c) (i := 6) (ps_ret (pe_tup (pa_cons pe_str (pa_cons (pv 6) pa_nil)))))))))))))), ?_⟩
  exact (ss_seq (ss_if (st_not (st_val (snd_call (snd_cons snd_var (snd_cons (snd_fn (snd_cons snd_var snd_nil)) snd_nil))))) (ss_ret (snd_tup (snd_cons (snd_c fun _ => .str _) (snd_cons (snd_c fun _ => .str _) (snd_cons (snd_c fun _ => .non) snd_nil))) (llen_cons (llen_cons (llen_cons llen_nil))) (by decide))) ss_next) (ss_seq (ss_if (st_or (st_not (st_val (snd_fn (snd_cons snd_var (snd_cons (snd_c fun _ => .ty _) snd_nil))))) (st_not (st_val (snd_fn (snd_cons (snd_comp (si_tup snd_var) sg_name st_yes (snd_call (snd_cons snd_var (snd_cons (snd_fn (snd_cons snd_var snd_nil)) snd_nil)))) snd_nil))))) (ss_ret (snd_tup (snd_cons (snd_c fun _ => .str _) (snd_cons (snd_c fun _ => .str _) (snd_cons (snd_c fun _ => .non) snd_nil))) (llen_cons (llen_cons (llen_cons llen_nil))) (by decide))) ss_next) (ss_seq (ss_asg (i := 8) (snd_fn (snd_cons (snd_fn (snd_cons (snd_bin snd_var (snd_tup (snd_cons snd_var snd_nil) (llen_cons llen_nil) (by decide))) snd_nil)) snd_nil))) (ss_seq (ss_if (st_or (st_test (snd_bin snd_var snd_var)) (st_or (st_test (snd_bin snd_var snd_var)) (st_test (snd_bin snd_var snd_var)))) (ss_ret (snd_tup (snd_cons (snd_c fun _ => .str _) (snd_cons (snd_c fun _ => .str _) (snd_cons (snd_c fun _ => .non) snd_nil))) (llen_cons (llen_cons (llen_cons llen_nil))) (by decide))) ss_next) (ss_seq (ss_asg (i := 9) (snd_call (snd_cons snd_var (snd_cons snd_var (snd_cons snd_var snd_nil))))) (ss_seq (ss_if (st_test (snd_bin snd_var (snd_c fun _ => .non))) (ss_ret (snd_tup (snd_cons (snd_c fun _ => .str _) (snd_cons (snd_c fun _ => .str _) (snd_cons (snd_bin snd_var (snd_c fun _ => .int _)) snd_nil))) (llen_cons (llen_cons (llen_cons llen_nil))) (by decide))) ss_next) (ss_seq (ss_newD (i := 6)) (ss_seq (ss_for (si_list (snd_call (snd_cons snd_var snd_nil))) sg_name (ss_seq (ss_asg (i := 7) (snd_bin (snd_bin (snd_slT1 snd_var snd_var) (snd_tup (snd_cons (snd_un (snd_c fun _ => .int _)) snd_nil) (llen_cons llen_nil) (by decide))) (snd_slT2 snd_var (snd_bin snd_var (snd_c fun _ => .int _))))) (ss_put (i := 6) (snd_call (snd_cons (snd_bin snd_var (snd_tup (snd_cons snd_var (snd_cons snd_var snd_nil)) (llen_cons (llen_cons llen_nil)) (by decide))) (snd_cons (snd_bin snd_var (snd_tup (snd_cons snd_var (snd_cons snd_var snd_nil)) (llen_cons (llen_cons llen_nil)) (by decide))) snd_nil))) snd_var))) (ss_frz (i := 6) (ss_ret (snd_tup (snd_cons (snd_c fun _ => .str _) (snd_cons snd_var snd_nil)) (llen_cons (llen_cons llen_nil)) (by decide))))))))))))
end Dl
/-! Whole.__init__: the lambda handed on, the fields set. -/
namespace Dl
open PySem PySem.Spec PyProof.Rows L2
theorem cells_ge : ∀ (names : List (Str × NameKind)) (n : Nat) (acc : List (Str × Addr)) (x : Str) (a : Addr), (x, a) ∈ cellsFrom n names acc → (x, a) ∈ acc ∨ n ≤ a
  | [], _, _, _, _, h => .inl h
  | (nm, k) :: r, n, acc, x, a, h => by
    unfold cellsFrom at h
    split at h
    · rcases cells_ge r (n + 1) _ x a h with h | h
      · rcases List.mem_cons.mp h with h | h
        · cases h; exact .inr (Nat.le_refl _)
        · exact .inl h
      · exact .inr (by omega)
    · exact cells_ge r n acc x a h
/-- first_bad(x, y, lambda ..), as the def's first words: HZ is the heap at its entry -/
def tFB (c : Cf) (HZ : Hp) (G : Addr → Addr → V → Fn) (i j : Nat) : TE := fun σ H Q => H = HZ ∧ ∃ x y, σ[i]? = some (some x) ∧ σ[j]? = some (some y) ∧ LamX.Tabs c.T H ∧
  ∀ f c' H1, Kp none H H1 → LamX.Tabs c.T H1 → H1 c' = some (LamX.CodeO c' c.lamq) → spD c (G f c' x) [x, y, .ref f] H1 Q E0
section
variable {c : Cf} {mg : Str → Option Value} {base : Heap} {N : List Str} {qual : Str} {scope : Scope} {f : Addr} {cd P : Addr} {A : Around} {outer : List PySem.Env} {s0 : Shared} {H0 : Hp} {E : XK}
theorem pe_fb {G : Addr → Addr → V → Fn} {i j k m : Nat} {p p1 p2 p3 pos : Pos} {a b fn : Str} (D : ∀ f0 c0 x0, DfS c mg base fn (lamCond c f0 c0 x0) k (G f0 c0 x0)) (hr : Room m (A.deeper (envOfC qual scope s0.heap.objs.size f (.ref cd))))
    (TB : LamX.TabB base mg cd P) (hm : (P, c.lamq) ∈ c.T) (hu : ∀ p ∈ c.T, p.1 = P → p.2 = c.lamq) (hq : (envOfC qual scope s0.heap.objs.size f (.ref cd)).qual ++ "<lambda>" = c.lamq)
    (hg : Gl (cxOf CX0 c.P c.w c.K mg base N qual scope f (.ref cd) A outer s0 H0 E) fn) (hN : N[i]? = some a) (hv : Vis scope a) (hN2 : N[j]? = some b) (hv2 : Vis scope b)
    (hfr : ∀ y ∈ lamW.scope.names, y.2 = .free → scope.names.lookup y.1 = some .cell ∨ scope.names.lookup y.1 = some .free) (hsz : a = "sizes") (hj : k ≤ m := by decide)
    (hd : (a == ("__debug__" : Str)) = false := by decide) (hcd : (a == ("__classdict__" : Str)) = false := by decide) (hd2 : (b == ("__debug__" : Str)) = false := by decide) (hcd2 : (b == ("__classdict__" : Str)) = false := by decide) (hdb : (fn == ("__debug__" : Str)) = false := by decide) :
    PE (cxOf CX0 c.P c.w c.K mg base N qual scope f (.ref cd) A outer s0 H0 E) (.Call (.Name fn p) [.Name a p1, .Name b p2, .Lambda lamW.params lamW.body lamW.scope p3] [] pos) (tFB c H0 G i j) := by
  refine ⟨fun pins s σ H Q I h => ?_⟩
  obtain ⟨eH, x, y, hx, hy, hT, h⟩ := h
  obtain ⟨g, fd, ps, F, hmg, hk, hb⟩ := (D 0 0 .non).ex
  refine wpAny_Call_Name_kw (ld_glob I hg hmg ?_ hdb)
  refine PySem.W.callWith_K (h₀ := base) I.ok.mod.kin hk ?_ (by rfl) (by rfl)
  show wpAny _ _ (spliced ((false, eval (.Name a p1) _) :: (false, eval (.Name b p2) _) :: (false, eval (.Lambda lamW.params lamW.body lamW.scope p3) _) :: [])) _ _ s
  refine Calls.spliced_cons (thn ((pe_var (pos := p1) (i := i) hN hv hd hcd).run pins s σ H (fun v H1 => v = x ∧ H1 = H) I ⟨x, hx, rfl, rfl⟩) fun u1 s1 ⟨v1, H1, I1, r1, e1, e1'⟩ => ?_)
  subst e1 e1'
  refine Calls.spliced_cons (thn ((pe_var (pos := p2) (i := j) hN2 hv2 hd2 hcd2).run pins s1 σ _ (fun v H1' => v = y ∧ H1' = _) I1 ⟨y, hy, rfl, rfl⟩) fun u2 s2 ⟨v2, H2, I2, r2, e2, e2'⟩ => ?_)
  subst e2 e2'
  refine Calls.spliced_cons (LamX.lam_make2 (T := c.T) (c := cd) (P := P) I2 TB rfl (by rw [show (cxOf CX0 c.P c.w c.K mg base N qual scope f (.ref cd) A outer s0 H0 E).env.qual ++ "<lambda>" = c.lamq from hq]; exact hm)
    (fun p hp e => by rw [show (cxOf CX0 c.P c.w c.K mg base N qual scope f (.ref cd) A outer s0 H0 E).env.qual ++ "<lambda>" = c.lamq from hq]; exact hu p hp e) hT rfl
    (fun z hz e => (hfr z hz e).elim (fun w => I2.ok.has _ (.inl w)) fun w => I2.ok.has _ (.inr w)) fun f' c' pm ctv H3 s3 I3 eN T3 hf hfn hfs hco => ?_)
  rw [show (cxOf CX0 c.P c.w c.K mg base N qual scope f (.ref cd) A outer s0 H0 E).env.qual ++ "<lambda>" = c.lamq from hq] at hf hco
  refine Calls.spliced_nil ⟨I3.kIn, ?_⟩
  obtain ⟨g', fd', ps', F', hmg', _, hb'⟩ := (D f' c' v1).ex
  rw [hmg] at hmg'
  cases hmg'
  have hex : (cxOf CX0 c.P c.w c.K mg base N qual scope f (.ref cd) A outer s0 H0 E).ex = [] := rfl
  have kp : Kp none _ H3 := ⟨fun b o _ n e => eN b o e n, fun b ps e => by
    obtain ⟨more, z⟩ := I3.base.tbls b ps (by rw [← eH]; exact e)
    exact ⟨_, z⟩, fun b e => by cases e⟩
  have lamO : LamO lamW c.lamq s3 H3 (frs (cxOf CX0 c.P c.w c.K mg base N qual scope f (.ref cd) A outer s0 H0 E).stack) f' c' v1 := by
    refine ⟨pm, ctv, _, hf, hfn, hfs, ?_, fun y2 a2 e z => ?_⟩
    · have hcap : NdefX.Caps (cxOf CX0 c.P c.w c.K mg base N qual scope f (.ref cd) A outer s0 H0 E) (cloFrom (cxOf CX0 c.P c.w c.K mg base N qual scope f (.ref cd) A outer s0 H0 E).env.cells lamW.scope.names []) ["sizes"] [i] :=
        NdefX.Caps.made I3.ok hfr (by decide +kernel) (by
          show [N[i]?] = [some ("sizes" : Str)]
          rw [hN, hsz])
      have := NdefX.cells_of I3 hcap
      have e2 : NdefX.slotAt σ i = some v1 := by
        unfold NdefX.slotAt
        rw [hx]
      rwa [show [i].map (NdefX.slotAt σ) = [some v1] by rw [List.map_cons, e2]; rfl] at this
    · have hf2 : ∀ y ∈ lamW.scope.names, y.2 = .free → ∃ c', (cxOf CX0 c.P c.w c.K mg base N qual scope f (.ref cd) A outer s0 H0 E).env.cells.lookup y.1 = some c' := fun w hw e => (hfr w hw e).elim (fun z => I3.ok.has _ (.inl z)) fun z => I3.ok.has _ (.inr z)
      have e3 := NdefX.clo_cm hf2 e
      have e4 : (y2, a2) ∈ cellsFrom (s0.heap.objs.size + 1) scope.names [] := PySem.mem_of_lookup e3
      rcases cells_ge _ _ _ _ _ e4 with w | w
      · cases w
      · rcases List.mem_cons.mp (I3.stkSub _ z) with w2 | w2
        · have w2 : a2 = s0.heap.objs.size := w2
          rw [w2] at w
          exact Nat.not_succ_le_self _ w
        · obtain ⟨_, o, ho, _⟩ := I3.ok.funs.mem w2
          have := Heap.lt_size ho
          have : a2 < s0.heap.objs.size := this
          exact Nat.not_succ_le_self _ (Nat.le_trans (Nat.succ_le_succ (Nat.le_of_lt this)) w)
  exact run_fnT (X := cxOf CX0 c.P c.w c.K mg base N qual scope f (.ref cd) A outer s0 H0 E) (cond := lamCond c f' c' v1) (F'.mono hj) hr hb' I3 lamO (.cons r1 (.cons r2 (.cons (show L2.RelV (.ref f') (Value.ref f') from rfl) .nil))) (h f' c' H3 kp T3 hco)
end
/-! ### __init__ -/
abbrev N_init : List Str := ["self", "sizes", "shares", "bad"]
theorem sc_init : FnScope N_init ["self", "sizes", "shares"] (defScope s_init) := ⟨rfl, rfl, rfl, by decide +kernel, rfl, by decide +kernel, by decide +kernel⟩
/-- what the class asks of its words: no fault found -/
def initG (c : Cf) (sz sh : D) (hs : HS) : Prop := (∀ f0 c0 x0, G_first_bad c f0 c0 x0 [sz, sh, .lam f0 c0 x0 sz] hs = some (.non, hs)) ∧ G_uneven_pattern c [sz, sh] hs = some (.non, hs)
def spInit (c : Cf) : Sp := fun vs H Q _ => ∃ p dx x y sz sh hs F, vs = [.ref p, x, y] ∧ H p = some (.ins c.C dx []) ∧ F p = none ∧ Ex F H ∧ (∀ a ps, F a ≠ some (.tbl ps)) ∧ F hs.ad = none ∧ (H hs.ad = some (.dK (handK hs)) ∧ FD c F (.ref hs.la) (.lst (hs.cells.map D.int))) ∧ LamX.Tabs c.T H ∧ FD c F x sz ∧ FD c F y sh ∧ initG c sz sh hs ∧
  ∀ H' F' v1 v2, Nx c (some hs.ad) F H F' H' → F' p = none → F' hs.ad = none → (H' hs.ad = some (.dK (handK hs)) ∧ FD c F' (.ref hs.la) (.lst (hs.cells.map D.int))) → H' p = some (.ins c.C dx []) → FD c F' v1 sz → FD c F' v2 sh →
    Q .non (upd (upd H' p (.ins c.C dx [(("sizes" : Str), v1)])) p (.ins c.C dx [(("sizes" : Str), v1), (("shares" : Str), v2)]))
theorem ss_never {c : Cf} {W : WX'} : SndS c W tNever (fun _ _ => none) := by
  intro B hs Γ tmp σ H D0 r hs' e
  cases e
abbrev FnI (K : PySem.W.Frag) (f : Addr) (fd : FuncData) : Prop := FunD K "__init__" "Whole.__init__" (defArgs s_init) (defBody s_init) (defScope s_init) [] [] f fd
theorem lay_code {c : Cf} {F H H1 : Hp} {p q : Addr} {z : Str} (sub : Ex F H) (nt : ∀ a ps, F a ≠ some (.tbl ps)) (k : Kp none H H1) (hco : H1 q = some (LamX.CodeO q z)) (hp : F p = none) (hne : p ≠ q) :
    ∃ F1, Ex F F1 ∧ Ex F1 H1 ∧ (∀ a ps, F1 a ≠ some (.tbl ps)) ∧ F1 p = none ∧ F1 q = some (LamX.CodeO q z) := by
  have sub1 : Ex F H1 := fun a o e => k.old a o (by simp) (fun ps w => nt a ps (by rw [e, w])) (sub a o e)
  cases e : F q with
  | none =>
    refine ⟨upd F q (LamX.CodeO q z), Ex.new e, fun a o h => ?_, fun a ps h => ?_, by rw [upd_ne hne]; exact hp, upd_same⟩
    · by_cases w : a = q
      · subst w; rw [upd_same] at h; cases h; exact hco
      · rw [upd_ne w] at h; exact sub1 a o h
    · by_cases w : a = q
      · subst w; rw [upd_same] at h; exact LamX.codeO_ne ps (Option.some.inj h)
      · rw [upd_ne w] at h; exact nt a ps h
  | some o =>
    have := sub1 q o e
    rw [hco] at this
    cases this
    exact ⟨F, Ex.refl F, sub1, nt, hp, e⟩
theorem ok_init {c : Cf} {mg : Str → Option Value} {base : Heap} {f cd P : Addr} {fd : FuncData} (hW : Wf c.K c.C) (h_fb : ∀ f0 c0 x0, DfS c mg base "first_bad" (lamCond c f0 c0 x0) 7 (G_first_bad c f0 c0 x0)) (h_un : Df c mg base "uneven_pattern" 3 (G_uneven_pattern c))
    (F : FnI c.K f fd) (hcode : fd.code = .ref cd) (TB : LamX.TabB base mg cd P) (hm : (P, c.lamq) ∈ c.T) (hu : ∀ p ∈ c.T, p.1 = P → p.2 = c.lamq) (hq : c.lamq = "Whole.__init__.<locals>.<lambda>") :
    FnOk c.P c.w c.K mg base CX0 8 f fd ["self", "sizes", "shares"] (spInit c) := by
  obtain ⟨oc, od, dV, kV, doc, pm, an, cdv, ct, osl, rfl, lk, hcd, _, _⟩ := F.ex
  have hcode : cdv = .ref cd := hcode
  subst hcode
  refine fn_of lk hcd sc_init (fun vs H Q E ⟨p, dx, x, y, sz, sh, hs, F, e, _⟩ => by rw [e]; rfl) fun A outer s H vs Q E hr h => ?_
  refine ⟨_, (pss_cons (ps_set (i := 3) sc_init.nd rfl (Or.inl rfl) (pe_fb (G := G_first_bad c) (i := 1) (j := 2) (a := "sizes") (b := "shares") (fn := "first_bad") h_fb hr TB hm hu (by rw [hq]; rfl) (by rfl) rfl (by exact Or.inr (Or.inl rfl)) rfl (by exact Or.inl rfl) (by decide +kernel) rfl))
    (pss_cons (ps_if (pt_cmpR (op_isD (c := c)) (pv 3) pe_non (nomark _)) (pss_one (ps_set (i := 3) sc_init.nd rfl (Or.inl rfl) (pe_df h_un (by exact ⟨⟨rfl, rfl, rfl⟩, rfl, rfl⟩) hr (by rfl) (pa_cons (pv 1) (pa_cons (pv 2) pa_nil))))) pss_nil)
    (pss_cons (ps_if (pt_cmpR (op_isNotD (c := c)) (pv 3) pe_non (nomark _)) (pss_one ps_never) pss_nil)
    (pss_cons (ps_fld (pv 0) (pv 1) (by rfl)) (pss_one (ps_fld (pv 0) (pv 2) (by rfl)))))))
    , ?_⟩
  obtain ⟨p, dx, x, y, sz, sh, hs, F0, rfl, hpH, hpF, sub, nt, hF, hh, tb, fx, fy, ⟨g1, g2⟩, q⟩ := h
  refine ⟨rfl, x, y, rfl, rfl, tb, fun f' c' H1 kp T1 hco => ?_⟩
  have nad : hs.ad ≠ c' := fun z => by
    have := kp.old hs.ad _ (by simp) (by intro ps w; cases w) hh.1
    rw [z, hco] at this
    unfold LamX.CodeO at this
    cases this
  obtain ⟨F1, fe, sub1, nt1, hF1, hc1⟩ := lay_code (c := c) (p := hs.ad) sub nt kp hco hF nad
  refine ⟨[sz, sh, .lam f' c' x sz], hs, .non, hs, F1, g1 f' c' x, sub1, nt1, hF1, ⟨kp.old _ _ (by simp) (by intro ps w; cases w) hh.1, hh.2.mono fe⟩, T1,
    .cons (fx.mono fe) (.cons (fy.mono fe) (.cons (.lam hc1 (fx.mono fe)) .nil)), fun v H2 F2 _ n2 hF2 hh2 fv => ?_⟩
  cases fv
  have d0 : DSF c ⟨F0, H, []⟩ hs ([D.hand p, sz, sh].map Sl.dat ++ List.replicate (N_init.length - 3) .dead) [] (L2.start N_init [.ref p, x, y]) H F0 (fun _ => 0) :=
    DSF.start (N := N_init) (ds := [.hand p, sz, sh]) (vs := [.ref p, x, y]) hs sub nt hF hh tb (.cons (.hand p) (.cons fx (.cons fy .nil))) (Nat.le_succ 3)
  have kp2 : Kp (some hs.ad) H H2 := kp.mono.trans n2.he
  have d1 := (d0.back kp2 (HSm.refl hs) (n2.tabs T1) hh2.1).set (i := 3) (v := .non) (x := .non) .non
  refine ss_if (c := c) (W := fun _ _ _ _ => False) (st_test (snd_bin snd_var (snd_c fun _ => .non))) (ss_asg (i := 3) (snd_call (snd_cons snd_var (snd_cons snd_var snd_nil)))) ss_next ⟨F0, H, []⟩ hs _ [] _ H2 ⟨F0, _, d1⟩ (.nx [.dat (.hand p), .dat sz, .dat sh, .dat .non]) hs ?_ _ fun _ σ3 H3 d3 => ?_
  · show sIf (bOf (eBin dIs (eVar 3) (eC .non))) (sAsg 3 (eCall (G_uneven_pattern c) (lCons (eVar 1) (lCons (eVar 2) lNil)))) sNext [.dat (.hand p), .dat sz, .dat sh, .dat .non] hs = _
    simp [sIf, bOf, eBin, eVar, eC, dIs, sAsg, eCall, lCons, lNil, g2]
  refine ss_if (c := c) (W := fun _ _ _ _ => False) (st_test (snd_bin snd_var (snd_c fun _ => .non))) ss_never ss_next ⟨F0, H, []⟩ hs _ [] _ H3 d3 (.nx [.dat (.hand p), .dat sz, .dat sh, .dat .non]) hs ?_ _ fun _ σ4 H4 d4 => ?_
  · show sIf (bOf (eBin dIsNot (eVar 3) (eC .non))) (fun _ _ => none) sNext [.dat (.hand p), .dat sz, .dat sh, .dat .non] hs = _
    simp [sIf, bOf, eBin, eVar, eC, dIsNot, sNext]
  obtain ⟨F4, ow4, d4⟩ := d4
  obtain ⟨vp, hvp, fp⟩ := d4.slot 0 _ rfl
  obtain ⟨v1, hv1, f1⟩ := d4.slot 1 _ rfl
  obtain ⟨v2, hv2, f2⟩ := d4.slot 2 _ rfl
  cases fp
  have npa : p ≠ hs.ad := fun z => by
    rw [z, hh.1] at hpH
    cases hpH
  have hp4 : H4 p = some (.ins c.C dx []) := d4.old.old p _ (fun z => npa (Option.some.inj z)) (by intro ps w; cases w) hpH
  have hf4 : F4 p = none := by
    cases e : F4 p with
    | none => rfl
    | some o =>
      have := d4.new p (by rw [e]; simp) hpF
      rw [show (⟨F0, H, []⟩ : Ba).H0 p = H p from rfl, hpH] at this
      cases this
  refine ⟨v1, hv1, .ref p, hvp, p, c.C, dx, [], rfl, hp4, hW.cl, hW.sz, by decide, ?_⟩
  refine ⟨v2, hv2, .ref p, hvp, p, c.C, dx, _, rfl, upd_same, hW.cl, hW.sh, Nat.succ_lt_succ (Nat.zero_lt_succ _), ?_⟩
  exact q H4 F4 v1 v2 ⟨d4.ex0, d4.sub, d4.old, d4.new, d4.nt, fun _ => d4.tabs⟩ hf4 d4.hF d4.hH hp4 f1 f2
end Dl
/-! Whole(..) -/
namespace Dl
open PySem PySem.Spec PyProof.Rows L2
structure DfW (c : Cf) (mg : Str → Option Value) (base : Heap) (k : Nat) : Prop where
  ex : ∃ f fd, FnOk c.P c.w c.K mg base CX0 k f fd ["self", "sizes", "shares"] (spInit c) ∧ Mk c.K c.C f ∧ Binds c.K fd ["self", "sizes", "shares"] []
section
variable {c : Cf} {X : Cx} {W : WX'} {tas : TA} {l : LDn} {mg : Str → Option Value} {base : Heap}
theorem pe_whole {k j : Nat} {e : Expr} {es : List Expr} {p pos : Pos} (D : DfW c mg base k) (o : Ov c mg base X) (hG : Gc c mg) (hr : Room j X.A) (hg : Gl X "Whole") (ha : PA X (e :: es) tas) (hj : k + 1 ≤ j := by decide) (he : starEach (e :: es) X.env = (false, eval e X.env) :: starEach es X.env := by rfl) (hpl : (backTo pos (starEach es X.env)).any (·.1) = false := by rfl) :
    PE X (.Call (.Name "Whole" p) (e :: es) [] pos) (tMake c.C (spInit c) [] E0 tas) := by
  obtain ⟨f, fd, F, M, hb⟩ := D.ex
  have hcf := o.cf
  have hm := hG.whole
  rw [hcf.P, hcf.w, hcf.K, ← o.mg, ← o.base] at F
  rw [hcf.K] at M hb
  rw [← o.mg] at hm
  exact pe_make M F (hr.mono hj) hg hm hb .nil pass0 ha (by decide) he hpl
open Classical in
noncomputable def eMk (c : Cf) (l : LDn) : EDn := fun Γ hs => (l Γ hs).bind fun r => match r.1 with
  | [sz, sh] => if initG c sz sh r.2 then some (.obj sz sh, r.2) else none
  | _ => none
theorem tabs_upd {T : List (Addr × Str)} {H : Hp} {p : Addr} {u o : HO} (t : LamX.Tabs T H) (hu : H p = some u) (ut : ∀ ps, u ≠ .tbl ps) (uc : ∀ q, u ≠ LamX.CodeO p q) : LamX.Tabs T (upd H p o) := fun b hb => by
  obtain ⟨ps, t1, t2, t3⟩ := t b hb
  refine ⟨ps, by rw [upd_ne (fun z => by rw [z, hu] at t1; exact ut ps (Option.some.inj t1))]; exact t1, t2, fun pos cv hc => ?_⟩
  obtain ⟨cc, c1, c2⟩ := t3 pos cv hc
  exact ⟨cc, c1, by rw [upd_ne (fun z => by rw [z] at c2; rw [hu] at c2; exact uc _ (Option.some.inj c2))]; exact c2⟩
theorem snd_mk (h : SndA c tas l) : Snd c (tMake c.C (spInit c) [] E0 tas) (eMk c l) := by
  intro B hs Γ tmp σ H D0 d hs' e Q q
  unfold eMk at e
  obtain ⟨⟨ds, hs1⟩, e1, e⟩ := Option.bind_eq_some_iff.mp e
  split at e <;> try (cases e; done)
  rename_i sz sh hds
  have hds : ds = [sz, sh] := hds
  subst hds
  split at e <;> try (cases e; done)
  rename_i hi
  cases e
  refine h B hs Γ tmp σ H D0 [sz, sh] hs1 e1 _ fun vs H1 a1 ln D1 k1 => ?_
  obtain ⟨F, ow, d1⟩ := D1
  obtain ⟨x, y, rfl⟩ : ∃ x y, vs = [x, y] := by
    match vs, ln with
    | [x, y], _ => exact ⟨x, y, rfl⟩
  intro a dx ha hdx hne
  have fx := d1.tmp (sz, x) (by simp)
  have fy := d1.tmp (sh, y) (by simp)
  have hFa : F a = none := d1.sub.back ha
  have hFd : F dx = none := d1.sub.back hdx
  have e2 : Ex H1 (upd (upd H1 dx (.own a)) a (.ins c.C dx [])) := fun b o w => by
    rw [upd_ne (ne_of_none w ha), upd_ne (ne_of_none w hdx)]
    exact w
  have hana : a ≠ hs1.ad := fun z => by
    have := d1.hH.1
    rw [← z, ha] at this
    cases this
  refine ⟨a, dx, x, y, sz, sh, hs1, F, rfl, upd_same, hFa, d1.sub.trans e2, d1.nt, d1.hF, ⟨e2 _ _ d1.hH.1, d1.hH.2⟩, d1.tabs.ext e2, fx, fy, hi, fun H' F' v1 v2 n hF'a hF' hh' hH'a f1 f2 => ⟨rfl, ?_⟩⟩
  have n2 : Nx c (some hs1.ad) F H1 (upd F' a (.ins c.C dx [(("sizes" : Str), v1), (("shares" : Str), v2)])) (upd (upd H' a (.ins c.C dx [(("sizes" : Str), v1)])) a (.ins c.C dx [(("sizes" : Str), v1), (("shares" : Str), v2)])) := by
    refine ⟨fun b o w => ?_, fun b o w => ?_, ⟨fun b o w1 w2 w => ?_, fun b ps w => ?_, fun b w1 w2 => ?_⟩, fun b w1 w2 => ?_, fun b ps w => ?_, fun t => ?_⟩
    · rw [upd_ne (ne_of_none w hFa)]; exact n.fe b o w
    · by_cases z : b = a
      · subst z; rw [upd_same] at w ⊢; exact w
      · rw [upd_ne z] at w; rw [upd_ne z, upd_ne z]; exact n.sub b o w
    · rw [upd_ne (ne_of_none w ha), upd_ne (ne_of_none w ha)]; exact n.he.old b o w1 w2 (e2 b o w)
    · rw [upd_ne (ne_of_none w ha), upd_ne (ne_of_none w ha)]; exact n.he.tbl b ps (e2 b _ w)
    · have zb : b ≠ a := fun z => w2 (by rw [z]; exact ha)
      rw [upd_ne zb, upd_ne zb]
      refine n.he.some b w1 fun z => w2 ((Kp.of (ad := none) e2).free z)
    · by_cases z : b = a
      · rw [z]; exact ha
      · rw [upd_ne z] at w1
        exact (Kp.of (ad := none) e2).free (n.new b w1 w2)
    · by_cases z : b = a
      · subst z; rw [upd_same] at w; cases w
      · rw [upd_ne z] at w; exact n.nt b ps w
    · have cne : ∀ (q : Str) (fs : List (Str × V)), HO.ins c.C dx fs ≠ LamX.CodeO a q := fun q fs z => by unfold LamX.CodeO at z; cases z
      exact tabs_upd (tabs_upd (n.tabs (t.ext e2)) hH'a (by intro ps w; cases w) (fun q => cne q _)) upd_same (by intro ps w; cases w) (fun q => cne q _)
  have fe2 : Ex F' (upd F' a (.ins c.C dx [(("sizes" : Str), v1), (("shares" : Str), v2)])) := Ex.new hF'a
  have k2 := n2.he
  rw [a1.ad] at k2
  refine q (.ref a) _ a1 ⟨_, ow, ((d1.call n2 rfl (by rw [upd_ne (Ne.symm hana)]; exact hF') ⟨by rw [upd_ne (Ne.symm hana), upd_ne (Ne.symm hana)]; exact hh'.1, hh'.2.mono fe2⟩).push (.obj upd_same (f1.mono fe2) (f2.mono fe2))).drop (by intro p hp; simp at hp ⊢; rcases hp with h | h <;> simp [h])⟩ (k1.trans k2)
end
end Dl
namespace Dl
open PySem PySem.Spec PyProof.Rows L2
abbrev N_eq : List Str := ["self", "other"]
theorem sc_eq : FnScope N_eq ["self", "other"] (defScope s_eq) := ⟨rfl, rfl, rfl, by decide +kernel, rfl, by decide +kernel, by decide +kernel⟩
noncomputable def dn_eq (c : Cf) : SDn :=
    (sRet (eB (bAnd (bOf (eFn (dIsi c) (lCons (eVar 1) (lCons (eC (.cls c.C)) lNil)))) (bOf (eBin dEqX (eTup (lCons (eFld (eVar 0) true) (lCons (eFld (eVar 0) false) lNil))) (eTup (lCons (eFld (eVar 1) true) (lCons (eFld (eVar 1) false) lNil))))))))
noncomputable abbrev G_eq (c : Cf) : Fn := fnG 2 2 (dn_eq c)
structure DfE (c : Cf) (mg : Str → Option Value) (base : Heap) (k : Nat) : Prop where
  ex : ∃ fa fd ps, EqK c.K c.C fa ∧ FnOk c.P c.w c.K mg base CX0 k fa fd ps (spD c (G_eq c)) ∧ Binds c.K fd ps []
abbrev FnE (K : PySem.W.Frag) (f : Addr) (fd : FuncData) : Prop := FunD K "__eq__" "Whole.__eq__" (defArgs s_eq) (defBody s_eq) (defScope s_eq) [] [] f fd
theorem ok_eq {c : Cf} {mg : Str → Option Value} {base : Heap} {f : Addr} {fd : FuncData} (hW : Wf c.K c.C) (hB : Bt mg) (hG : Gc c mg) (F : FnE c.K f fd) (q : EqK c.K c.C f) : DfE c mg base 1 := by
  refine ⟨f, fd, ["self", "other"], q, F.ok sc_eq (fun vs H Q E h => sp_len h) (fun cdv A outer s H vs Q E hr h => ?_), F.bindsN fun _ _ _ _ _ _ us hl => match us, hl with | [_, _], _ => rfl⟩
  suffices h2 : ∃ t, PSs (cxOf CX0 c.P c.w c.K mg base N_eq "Whole.__eq__" (defScope s_eq) f cdv A outer s H E).nox (defBody s_eq) t ∧ SndS c (fun _ _ _ _ => False) t (dn_eq c) by
    obtain ⟨t, h3, h4⟩ := h2
    exact ⟨t, PSs.nox h3, fn_body h4 (by decide) h⟩
  refine ⟨_, (pss_one (ps_ret (pe_and (pe_callB (call_isiD (by exact ⟨rfl, rfl, rfl⟩) hW) (by rfl) (by exact hB.isinstance) bb_isinstance (pa_cons (pv 1) (pa_cons (pe_gr (by exact ⟨⟨rfl, rfl, rfl⟩, rfl, rfl⟩) hG.whole (by rfl)) pa_nil))) (pe_one (pe_cmpR (op_eqX (by exact ⟨rfl, rfl, rfl⟩) (by exact hu64 hr)) (pe_tup (pa_cons (pe_fld (pv 0) rfl) (pa_cons (pe_fld (pv 0) rfl) pa_nil))) (pe_tup (pa_cons (pe_fld (pv 1) rfl) (pa_cons (pe_fld (pv 1) rfl) pa_nil))) (nomark _)))))), ?_⟩
  exact (ss_ret (snd_andV (snd_fn (snd_cons snd_var (snd_cons (snd_c fun _ => .cls _) snd_nil))) (snd_bin (snd_tup (snd_cons (snd_sizes hW snd_var) (snd_cons (snd_shares hW snd_var) snd_nil)) (llen_cons (llen_cons llen_nil)) (by decide)) (snd_tup (snd_cons (snd_sizes hW snd_var) (snd_cons (snd_shares hW snd_var) snd_nil)) (llen_cons (llen_cons llen_nil)) (by decide)))))
end Dl
/-! Defs that raise. -/
namespace Dl
open PySem PySem.Spec PyProof.Rows L2
abbrev FnX := List D → HS → Option (Res × HS)
def PostX (c : Cf) (H F : Hp) (hs hs' : HS) (Q : VK) (E : XK) : Res → Prop
  | .nx _ => False
  | .ret d => ∀ v H' F', HSm hs hs' → Nx c (some hs.ad) F H F' H' → F' hs'.ad = none → (H' hs'.ad = some (.dK (handK hs')) ∧ FD c F' (.ref hs'.la) (.lst (hs'.cells.map D.int))) → FD c F' v d → Q v H'
  | .retO d => ∀ v p H' F', HSm hs hs' → Nx c (some hs.ad) F H F' H' → F' hs'.ad = none → (H' hs'.ad = some (.dK (handK hs')) ∧ FD c F' (.ref hs'.la) (.lst (hs'.cells.map D.int))) → Own c F' H' v d p → F' p = none → H p = none → Q v H'
  | .exc x => ∀ cls dd H' F', HSm hs hs' → Nx c (some hs.ad) F H F' H' → F' hs'.ad = none → (H' hs'.ad = some (.dK (handK hs')) ∧ FD c F' (.ref hs'.la) (.lst (hs'.cells.map D.int))) → XIs c x cls dd H' → E cls dd H'
/-- the promise of a def that computes G, and may raise -/
def spX (c : Cf) (G : FnX) : Sp := fun vs H Q E => ∃ ds hs r hs' F, G ds hs = some (r, hs') ∧ Ex F H ∧ (∀ a ps, F a ≠ some (.tbl ps)) ∧ F hs.ad = none ∧ (H hs.ad = some (.dK (handK hs)) ∧ FD c F (.ref hs.la) (.lst (hs.cells.map D.int))) ∧ LamX.Tabs c.T H ∧ FDs c F vs ds ∧ PostX c H F hs hs' Q E r
def nxNon : Res × HS → Res × HS
  | (.nx _, h) => (.ret .non, h)
  | q => q
def fnX (n m : Nat) (g : SDn) : FnX := fun ds hs => if ds.length = n then (g (ds.map Sl.dat ++ List.replicate (m - n) .dead) hs).map nxNon else none
section
variable {c : Cf} {X : Cx} {W : WX'} {te ta tb ti : TE} {tt : TT} {f f1 f2 : EDn} {t u : TS} {g g1 g2 : SDn} {ft : BDn} {tas : TA} {l : LDn}
theorem spx_len {n m : Nat} {g : SDn} {vs : List V} {H : Hp} {Q : VK} {E : XK} (h : spX c (fnX n m g) vs H Q E) : vs.length = n := by
  obtain ⟨ds, hs, r, hs', F, e, sub, nt, hF, hh, tb, fv, q⟩ := h
  unfold fnX at e
  split at e <;> try (cases e; done)
  rename_i hl
  rw [fv.length, hl]
theorem fn_bodyX {n : Nat} {N : List Str} {vs : List V} {H : Hp} {Q : VK} {E : XK} (hb : SndS c (fun cls dd _ H => E cls dd H) t g) (hn : n ≤ N.length) (h : spX c (fnX n N.length g) vs H Q E) : t { nx := fun _ H' => Q .non H', rt := Q } (L2.start N vs) H := by
  obtain ⟨ds, hs, r, hs', F, e, sub, nt, hF, hh, tb, fv, q⟩ := h
  unfold fnX at e
  split at e <;> try (cases e; done)
  rename_i hl
  obtain ⟨⟨r1, hs1⟩, e1, e⟩ := Option.map_eq_some_iff.mp e
  have D0 := DSF.start hs sub nt hF hh tb fv (N := N) (by omega)
  rw [hl] at D0
  refine hb ⟨F, H, []⟩ hs _ [] _ H ⟨F, _, D0⟩ r1 hs1 e1 _ fun a1 => ?_
  cases r1 with
  | nx Γ' =>
    cases e
    intro σ' H' ⟨F', ow, d'⟩
    have o := d'.old
    rw [a1.ad] at o
    exact q .non H' F' a1 ⟨d'.ex0, d'.sub, o, d'.new, d'.nt, fun _ => d'.tabs⟩ d'.hF d'.hH .non
  | ret x =>
    cases e
    intro v H' ⟨F', ow, d'⟩
    have o := d'.old
    rw [a1.ad] at o
    exact q v H' F' a1 ⟨d'.ex0, d'.sub, o, d'.new, d'.nt, fun _ => d'.tabs⟩ d'.hF d'.hH (d'.tmp (x, v) (by simp))
  | exc x =>
    cases e
    intro cls dd σ' H' ⟨F', ow, d'⟩ hx
    have o := d'.old
    rw [a1.ad] at o
    exact q cls dd H' F' a1 ⟨d'.ex0, d'.sub, o, d'.new, d'.nt, fun _ => d'.tabs⟩ d'.hF d'.hH hx
  | retO x =>
    cases e
    intro v H' ⟨F', ow, d'⟩
    have o := d'.old
    rw [a1.ad] at o
    obtain ⟨v', hv, o1, o2, o3⟩ := d'.slot 0 _ rfl
    cases hv
    exact q v _ H' F' a1 ⟨d'.ex0, d'.sub, o, d'.new, d'.nt, fun _ => d'.tabs⟩ d'.hF d'.hH o1 o2 o3
/-- what is known of such a def -/
structure DfX (c : Cf) (mg : Str → Option Value) (base : Heap) (x : Str) (k : Nat) (G : FnX) : Prop where
  ex : ∃ f fd ps, FnOk c.P c.w c.K mg base (L2.CX c.P c.w) k f fd ps (spX c G) ∧ mg x = some (.ref f) ∧ PySem.W.keepIn c.K (.ref f) = true ∧ Binds c.K fd ps []
theorem pe_dfX {mg : Str → Option Value} {base : Heap} {x : Str} {k j : Nat} {G : FnX} {e : Expr} {es : List Expr} {p pos : Pos} (D : DfX c mg base x k G) (o : Ov c mg base X) (tk : Takes X W) (hr : Room j X.A) (hg : Gl X x) (ha : PA X (e :: es) tas) (hj : k ≤ j := by decide) (hdb : (x == ("__debug__" : Str)) = false := by decide) (he : starEach (e :: es) X.env = (false, eval e X.env) :: starEach es X.env := by rfl) (hpl : (backTo pos (starEach es X.env)).any (·.1) = false := by rfl) :
    PE X (.Call (.Name x p) (e :: es) [] pos) (tCallS (spX c G) (WE W) tas) := by
  obtain ⟨f, fd, ps, F, hm, hk, hb⟩ := D.ex
  have hcf := o.cf
  rw [hcf.P, hcf.w, hcf.K, ← o.mg, ← o.base] at F
  rw [hcf.K] at hk hb
  rw [← o.mg] at hm
  exact pe_callS F (hr.mono hj) hg hm hk hb (fun σ => passAt tk σ) ha hdb he hpl
/-- such a call as a statement -/
def sCallX (G : FnX) (l : LDn) : SDn := fun Γ hs => (l Γ hs).bind fun r => (G r.1 r.2).bind fun q => match q.1 with
  | .ret _ => some (.nx Γ, q.2)
  | .exc x => some (.exc x, q.2)
  | _ => none
theorem ss_callX {G : FnX} (h : SndA c tas l) : SndS c W (tDrop (tCallS (spX c G) (WE W) tas)) (sCallX G l) := by
  intro B hs Γ tmp σ H D0 r hs' e E p
  unfold sCallX at e
  obtain ⟨⟨ds, hs1⟩, e1, e⟩ := Option.bind_eq_some_iff.mp e
  obtain ⟨⟨r1, hs2⟩, e2, e⟩ := Option.bind_eq_some_iff.mp e
  refine h B hs Γ tmp σ H D0 ds hs1 e1 _ fun vs H1 a1 ln D1 k1 => ?_
  obtain ⟨F, ow, d1⟩ := D1
  refine ⟨ds, hs1, r1, hs2, F, e2, d1.sub, d1.nt, d1.hF, d1.hH, d1.tabs, fds_zip ln (fun p hp => d1.tmp p (List.mem_append_left _ hp)), ?_⟩
  cases r1 with
  | nx _ => cases e
  | retO _ => cases e
  | ret d =>
    cases e
    intro v H' F' a2 n hf hh fv
    exact p (a1.trans a2) σ H' ⟨F', ow, (d1.call n a2.ad hf hh).drop (fun p hp => List.mem_append_right _ hp)⟩
  | exc x =>
    cases e
    intro cls dd H' F' a2 n hf hh hx
    exact p (a1.trans a2) cls dd σ H' ⟨F', ow, ((d1.call n a2.ad hf hh).clear).drop (fun p hp => by simp at hp)⟩ hx
/-! ### raise -/
theorem pmk_own0 {C : Addr} {bmB : List Value} {B newId initId : String} {x : Str} {p pos : Pos} (F : ExcBaseFacts B newId initId bmB) (q : PySem.W.excIn X.K C bmB newId = true) (gC : X.mg x = some (.ref C))
    (kC : PySem.W.keepIn X.K (.ref C) = true) (r : Raises X (.ref C)) (hg : Gl X x) (hdb : (x == ("__debug__" : Str)) = false := by decide) :
    PMk X (.Call (.Name x p) [] [] pos) (fun _ H Q => Q (.ref C) none H) := by
  intro pins s σ H Q I h
  refine wpAny_Call_Name_kw (ld_glob I hg gC ?_ hdb)
  refine PySem.W.callWith_K0 I.kIn kC ?_
  obtain ⟨bm, N, nm, qn, bs, hdct, sn, sub, ab, col, dd, k0, k1, k2, k3, k5, mN, hC, hN, hni, T⟩ := exc_obj I.kIn q
  refine wpAny_call_exc_subT F T hC hN hni (fun h' e hm => ?_) (Nat.zero_le _)
  exact mk_of I hm r h (I.hok.gone hm.new)
def sExc (x : Exc) : SDn := fun _ hs => some (.exc x, hs)
theorem ss_raiseC : SndS c W (fun _ σ H => W (.ref c.cNC) none σ H) (sExc .noCol) := by
  intro B hs Γ tmp σ H ⟨F, ow, d⟩ r hs' e E p
  cases e
  exact p (HSm.refl hs) _ _ σ H ⟨F, ow, d.clear.drop (by simp)⟩ ⟨rfl, rfl⟩
theorem ss_raiseP : SndS c W (fun _ σ H => W (.ref c.cNP) none σ H) (sExc .noPat) := by
  intro B hs Γ tmp σ H ⟨F, ow, d⟩ r hs' e E p
  cases e
  exact p (HSm.refl hs) _ _ σ H ⟨F, ow, d.clear.drop (by simp)⟩ ⟨rfl, rfl⟩
/-- the promise of NotCalm's __init__ -/
def spNM (C : Addr) : Sp := fun vs H Q _ => ∃ a y, vs = [.ref a, y] ∧ H a = some (exo a C none) ∧ ∀ dx, H dx = none → dx ≠ a → Q .non (upd (upd H dx (exd dx [(("column" : Str), y)])) a (exo a C (some dx)))
def sRaiseN (l : LDn) : SDn := fun Γ hs => (l Γ hs).bind fun r => match r.1 with
  | [.int i] => some (.exc (.notCalm i), r.2)
  | _ => none
theorem ss_raiseN (h : SndA c tas l) : SndS c W (fun _ σ H => tMkO c.cNM (spNM c.cNM) [] tas σ H fun cls d H' => W cls d σ H') (sRaiseN l) := by
  intro B hs Γ tmp σ H D0 r hs' e E p
  unfold sRaiseN at e
  obtain ⟨⟨ds, hs1⟩, e1, e⟩ := Option.bind_eq_some_iff.mp e
  split at e <;> try (cases e; done)
  rename_i i hds
  have hds : ds = [.int i] := hds
  subst hds
  cases e
  refine h B hs Γ tmp σ H D0 [.int i] hs1 e1 _ fun vs H1 a1 ln D1 k1 => ?_
  obtain ⟨F, ow, d1⟩ := D1
  obtain ⟨x, rfl⟩ : ∃ x, vs = [x] := by
    match vs, ln with
    | [x], _ => exact ⟨x, rfl⟩
  have fx := d1.tmp (.int i, x) (by simp)
  cases fx
  refine ⟨(show 1 ≤ 1000 by decide), fun a ha => ⟨a, .int i, rfl, upd_same, fun dx hdx hne => ⟨rfl, dx, [(("column" : Str), .int i)], upd_same, ?_, ?_, ?_⟩⟩⟩
  · rw [upd_ne hne, upd_same]
  · rw [upd_ne hne] at hdx
    exact hdx
  · have hdx1 : H1 dx = none := by rw [upd_ne hne] at hdx; exact hdx
    have ex : Ex H1 (upd (del (upd (upd (upd H1 a (exo a c.cNM none)) dx (exd dx [(("column" : Str), .int i)])) a (exo a c.cNM (some dx))) a) dx (.xd [(("column" : Str), .int i)])) := fun b o w => by
      have nb : b ≠ a := ne_of_none w ha
      have nd : b ≠ dx := ne_of_none w hdx1
      rw [upd_ne nd, del_ne nb, upd_ne nb, upd_ne nd, upd_ne nb]
      exact w
    exact p a1 _ _ σ _ ⟨F, ow, ((d1.step (Nx.stay d1.sub d1.nt ex)).clear).drop (by simp)⟩ ⟨rfl, dx, rfl, upd_same⟩
/-! ### the classes -/
/-- an own class of exceptions without words of its own -/
structure Xo (K : PySem.W.Frag) (mg : Str → Option Value) (x : Str) (C : Addr) : Prop where
  g : mg x = some (.ref C)
  q : ∃ bmB B newId initId, ExcBaseFacts B newId initId bmB ∧ PySem.W.excIn K C bmB newId = true
  k : PySem.W.keepIn K (.ref C) = true
  s : PySem.W.subIn K (.ref C) (.type "BaseException") = some true
  t : PySem.W.typeIn K (.ref C) = some (.type "type")
theorem pmk_o {mg : Str → Option Value} {base : Heap} {x : Str} {C : Addr} {p pos : Pos} (h : Xo c.K mg x C) (o : Ov c mg base X) (hg : Gl X x) (hdb : (x == ("__debug__" : Str)) = false := by decide) : PMk X (.Call (.Name x p) [] [] pos) (fun _ H Q => Q (.ref C) none H) := by
  have g := h.g
  have k := h.k
  have s := h.s
  have t := h.t
  obtain ⟨bmB, B, newId, initId, hF, q⟩ := h.q
  rw [o.cf.K] at k s t q
  rw [← o.mg] at g
  exact pmk_own0 hF q g k (raises_own s t) hg hdb
/-- NotCalm -/
structure Xn (c : Cf) (mg : Str → Option Value) (base : Heap) (k : Nat) : Prop where
  g : mg "NotCalm" = some (.ref c.cNM)
  x : OexC c.K c.cNM
  i : ∃ fI fd ps, PySem.W.findIn c.K (.ref c.cNM) "__init__" = some (some (.ref fI)) ∧ PySem.W.typeIn c.K (.ref fI) = some (.type "function") ∧ FnOk c.P c.w c.K mg base CX0 k fI fd ps (spNM c.cNM) ∧ Binds c.K fd ps []
theorem pmk_n {mg : Str → Option Value} {base : Heap} {k j : Nat} {e : Expr} {es : List Expr} {p pos : Pos} (N : Xn c mg base k) (o : Ov c mg base X) (hr : Room j X.A) (hg : Gl X "NotCalm") (ha : PA X (e :: es) tas) (hj : k + 1 ≤ j := by decide) (he : starEach (e :: es) X.env = (false, eval e X.env) :: starEach es X.env := by rfl) (hpl : (backTo pos (starEach es X.env)).any (·.1) = false := by rfl) :
    PMk X (.Call (.Name "NotCalm" p) (e :: es) [] pos) (tMkO c.cNM (spNM c.cNM) [] tas) := by
  have g := N.g
  have x := N.x
  obtain ⟨fI, fd, ps, i, t, F, hb⟩ := N.i
  have hcf := o.cf
  rw [hcf.P, hcf.w, hcf.K, ← o.mg, ← o.base] at F
  rw [hcf.K] at x i t hb
  rw [← o.mg] at g
  exact pmk_oex x i t F (hr.mono hj) hb .nil pass0 hg g ha (by decide) he hpl
end
abbrev s_nm : Stmt := (clsBody (top 10)).getD 0 (.Pass ⟨0, 0, 0, 0⟩)
abbrev N_nm : List Str := ["self", "column"]
theorem sc_nm : FnScope N_nm ["self", "column"] (defScope s_nm) := ⟨rfl, rfl, rfl, by decide +kernel, rfl, by decide +kernel, by decide +kernel⟩
abbrev FnM (K : PySem.W.Frag) (f : Addr) (fd : FuncData) : Prop := FunD K "__init__" "NotCalm.__init__" (defArgs s_nm) (defBody s_nm) (defScope s_nm) [] [] f fd
theorem ok_nm {c : Cf} {mg : Str → Option Value} {base : Heap} {f : Addr} {fd : FuncData} (F : FnM c.K f fd) (x : OexC c.K c.cNM) (hno : PySem.W.findIn c.K (.ref c.cNM) "column" = some none) : FnOk c.P c.w c.K mg base CX0 1 f fd ["self", "column"] (spNM c.cNM) := by
  refine F.ok sc_nm (fun vs H Q E ⟨a, y, e, _⟩ => by rw [e]; rfl) (fun cdv A outer s H vs Q E hr h => ?_)
  refine ⟨_, pss_one (ps_ost (pv 0) (pv 1) (by rfl)), ?_⟩
  obtain ⟨a, y, rfl, ha, q⟩ := h
  exact ⟨y, rfl, .ref a, rfl, a, c.cNM, rfl, x, hno, .inl ⟨ha, q⟩⟩
end Dl
namespace Dl
open PySem PySem.Spec PyProof.Rows L2
theorem op_eqE {c : Cf} {X : Cx} {mg : Str → Option Value} {base : Heap} {k j : Nat} (D : DfE c mg base k) (o : Ov c mg base X) (hr : Room j X.A) (hu : X.A.units + 64 < cLine) (hj : k ≤ j := by decide) : OpR X (compareOp .Eq) (rEqW c (G_eq c) E0) := by
  obtain ⟨fa, fd, ps, q, F, hb⟩ := D.ex
  have hcf := o.cf
  rw [hcf.P, hcf.w, hcf.K, ← o.mg, ← o.base] at F
  rw [hcf.K] at q hb
  exact op_eqW hcf hu q F (hr.mono hj) hb pass0
theorem op_neE {c : Cf} {X : Cx} {mg : Str → Option Value} {base : Heap} {k j : Nat} (D : DfE c mg base k) (o : Ov c mg base X) (hr : Room j X.A) (hj : k + 1 ≤ j := by decide) : OpR X (compareOp .NotEq) (rNeOwn c.C (spD c (G_eq c)) E0) := by
  obtain ⟨fa, fd, ps, q, F, hb⟩ := D.ex
  have hcf := o.cf
  rw [hcf.P, hcf.w, hcf.K, ← o.mg, ← o.base] at F
  rw [hcf.K] at q hb
  exact op_neW q F (hr.mono hj) hb pass0
end Dl
namespace Dl
open PySem PySem.Spec PyProof.Rows L2
abbrev s_check_column : Stmt := top 44
abbrev N_check_column : List Str := ["sizes", "column"]
theorem sc_check_column : FnScope N_check_column ["sizes", "column"] (defScope s_check_column) := ⟨rfl, rfl, rfl, by decide +kernel, rfl, by decide +kernel, by decide +kernel⟩
noncomputable def dn_check_column (c : Cf) : SDn :=
    (sIf (bNot (bOf (eCall (G_is_within c) (lCons (eVar 1) (lCons (eC (.int 0)) (lCons (eBin dSub (eFn dLen (lCons (eVar 0) lNil)) (eC (.int 1))) lNil))))))
    (sExc .noCol)
    sNext)
noncomputable abbrev G_check_column (c : Cf) : FnX := fnX 2 2 (dn_check_column c)
theorem ok_check_column {c : Cf} {mg : Str → Option Value} {base : Heap} {f : Addr} {fd : FuncData} (hW : Wf c.K c.C) (hB : Bt mg) (hG : Gc c mg) (h_is_within : Df c mg base "is_within" 2 (G_is_within c)) (hXC : Xo c.K mg "NoColumn" c.cNC) (F : FnP c.K "check_column" s_check_column f fd) (hm : mg "check_column" = some (.ref f)) : DfX c mg base "check_column" 3 (G_check_column c) := by
  refine ⟨f, fd, ["sizes", "column"], F.ok (CX := L2.CX c.P c.w) sc_check_column (fun vs H Q E h => spx_len h) (fun cdv A outer s H vs Q E hr h => ?_), hm, F.kp, F.bindsN fun _ _ _ _ _ _ us hl => match us, hl with | [_, _], _ => rfl⟩
  suffices h2 : ∃ t, PSs (cxOf (L2.CX c.P c.w) c.P c.w c.K mg base N_check_column "check_column" (defScope s_check_column) f cdv A outer s H E) (defBody s_check_column) t ∧ SndS c (fun cls dd _ H => E cls dd H) t (dn_check_column c) by
    obtain ⟨t, h3, h4⟩ := h2
    exact ⟨t, h3, fn_bodyX h4 (by decide) h⟩
  refine ⟨_, (pss_one (ps_if (pt_not (pt_val (pe_df h_is_within (by exact ⟨⟨rfl, rfl, rfl⟩, rfl, rfl⟩) hr (by rfl) (pa_cons (pv 1) (pa_cons pe_int (pa_cons (pe_op (op_subD (c := c)) (pe_callB (call_lenD (by exact ⟨rfl, rfl, rfl⟩)) (by rfl) (by exact hB.len) bb_len (pa_cons (pv 0) pa_nil)) pe_int) pa_nil)))))) (pss_one (ps_raise (W := fun cls dd _ H => E cls dd H) rfl (takes_of rfl rfl rfl rfl) (pmk_o hXC (by exact ⟨⟨rfl, rfl, rfl⟩, rfl, rfl⟩) (by rfl)))) pss_nil)), ?_⟩
  exact (ss_if (st_not (st_val (snd_call (snd_cons snd_var (snd_cons (snd_c fun _ => .int _) (snd_cons (snd_bin (snd_fn (snd_cons snd_var snd_nil)) (snd_c fun _ => .int _)) snd_nil)))))) ss_raiseC ss_next)
abbrev s_check_calm : Stmt := top 45
abbrev N_check_calm : List Str := ["whole", "found"]
theorem sc_check_calm : FnScope N_check_calm ["whole"] (defScope s_check_calm) := ⟨rfl, rfl, rfl, by decide +kernel, rfl, by decide +kernel, by decide +kernel⟩
noncomputable def dn_check_calm (c : Cf) : SDn :=
    (sSeq (sAsg 1 (eCall (G_first_uncalm c) (lCons (eVar 0) lNil)))
    (sIf (bOf (eBin dIsNot (eVar 1) (eC .non)))
    (sRaiseN (lCons (eBin dIx (eVar 1) (eC (.int 0))) lNil))
    sNext))
noncomputable abbrev G_check_calm (c : Cf) : FnX := fnX 1 2 (dn_check_calm c)
theorem ok_check_calm {c : Cf} {mg : Str → Option Value} {base : Heap} {f : Addr} {fd : FuncData} (hW : Wf c.K c.C) (hB : Bt mg) (hG : Gc c mg) (h_first_uncalm : Df c mg base "first_uncalm" 5 (G_first_uncalm c)) (hN : Xn c mg base 1) (F : FnP c.K "check_calm" s_check_calm f fd) (hm : mg "check_calm" = some (.ref f)) : DfX c mg base "check_calm" 6 (G_check_calm c) := by
  refine ⟨f, fd, ["whole"], F.ok (CX := L2.CX c.P c.w) sc_check_calm (fun vs H Q E h => spx_len h) (fun cdv A outer s H vs Q E hr h => ?_), hm, F.kp, F.bindsN fun _ _ _ _ _ _ us hl => match us, hl with | [_], _ => rfl⟩
  suffices h2 : ∃ t, PSs (cxOf (L2.CX c.P c.w) c.P c.w c.K mg base N_check_calm "check_calm" (defScope s_check_calm) f cdv A outer s H E) (defBody s_check_calm) t ∧ SndS c (fun cls dd _ H => E cls dd H) t (dn_check_calm c) by
    obtain ⟨t, h3, h4⟩ := h2
    exact ⟨t, h3, fn_bodyX h4 (by decide) h⟩
  refine ⟨_, (pss_cons (ps_set (i := 1) sc_check_calm.nd rfl (Or.inl rfl) (pe_df h_first_uncalm (by exact ⟨⟨rfl, rfl, rfl⟩, rfl, rfl⟩) hr (by rfl) (pa_cons (pv 0) pa_nil))) (pss_one (ps_if (pt_cmpR (op_isNotD (c := c)) (pv 1) pe_non (nomark _)) (pss_one (ps_raise (W := fun cls dd _ H => E cls dd H) rfl (takes_of rfl rfl rfl rfl) (pmk_n hN (by exact ⟨⟨rfl, rfl, rfl⟩, rfl, rfl⟩) hr (by rfl) (pa_cons (pe_ix (ix_D (by exact ⟨rfl, rfl, rfl⟩)) (pv 1) pe_int (fun _ _ => rfl)) pa_nil)))) pss_nil))), ?_⟩
  exact (ss_seq (ss_asg (i := 1) (snd_call (snd_cons snd_var snd_nil))) (ss_if (st_test (snd_bin snd_var (snd_c fun _ => .non))) (ss_raiseN (snd_cons (snd_bin snd_var (snd_c fun _ => .int _)) snd_nil)) ss_next))
abbrev s_odds : Stmt := top 46
abbrev N_odds : List Str := ["whole", "column", "pattern", "found", "pairs", "pair", "content", "item"]
theorem sc_odds : FnScope N_odds ["whole", "column", "pattern"] (defScope s_odds) := ⟨rfl, rfl, rfl, by decide +kernel, rfl, by decide +kernel, by decide +kernel⟩
noncomputable def dn_odds (c : Cf) : SDn :=
    (sSeq (sCallX (G_check_column c) (lCons (eFld (eVar 0) true) (lCons (eVar 1) lNil)))
    (sSeq (sAsg 4 (eComp (lItemsL (eCall (G_pairs_of c) (lCons (eVar 0) (lCons (eVar 1) lNil)))) [5] (gd1 5) (bAnd (bOf (eEqW (G_eq c) (eBin dIx (eVar 5) (eC (.int 0))) (eVar 2))) (bOf (eFn (dIsi c) (lCons (eVar 2) (lCons (eC (.ty "tuple")) lNil))))) (eVar 5)))
    (sSeq (sIf (bOr (bOf (eBin dEqX (eFn dLen (lCons (eVar 4) lNil)) (eC (.int 0)))) (bOf (eFn dAny (lCons (eComp (lItemsT (eVar 2)) [7] (gd1 7) bYes (eFn (dIsi c) (lCons (eVar 7) (lCons (eC (.ty "bool")) lNil)))) lNil))))
    (sExc .noPat)
    sNext)
    (sSeq (sCallX (G_check_calm c) (lCons (eVar 0) lNil))
    (sSeq (sAsg 3 (eCall (G_quotients_along c) (lCons (eVar 0) (lCons (eBin dIx (eBin dIx (eVar 4) (eC (.int 0))) (eC (.int 0))) (lCons (eBin dIx (eBin dIx (eVar 4) (eC (.int 0))) (eC (.int 1))) lNil)))))
    (sRetDc (lItemsK (eVar 3)) [6] (gd1 6) bYes (eCall (G_without c) (lCons (eVar 6) (lCons (eVar 1) lNil))) (eBin dIxN (eVar 3) (eVar 6))))))))
noncomputable abbrev G_odds (c : Cf) : FnX := fnX 3 8 (dn_odds c)
theorem ok_odds {c : Cf} {mg : Str → Option Value} {base : Heap} {f : Addr} {fd : FuncData} (hW : Wf c.K c.C) (hB : Bt mg) (hG : Gc c mg) (h_check_column : DfX c mg base "check_column" 3 (G_check_column c)) (h_pairs_of : Df c mg base "pairs_of" 4 (G_pairs_of c)) (h_check_calm : DfX c mg base "check_calm" 6 (G_check_calm c)) (h_quotients_along : Df c mg base "quotients_along" 4 (G_quotients_along c)) (h_without : Df c mg base "without" 1 (G_without c)) (hQ : DfE c mg base 1) (hXP : Xo c.K mg "NoPattern" c.cNP) (F : FnP c.K "odds" s_odds f fd) (hm : mg "odds" = some (.ref f)) : DfX c mg base "odds" 7 (G_odds c) := by
  refine ⟨f, fd, ["whole", "column", "pattern"], F.ok (CX := L2.CX c.P c.w) sc_odds (fun vs H Q E h => spx_len h) (fun cdv A outer s H vs Q E hr h => ?_), hm, F.kp, F.bindsN fun _ _ _ _ _ _ us hl => match us, hl with | [_, _, _], _ => rfl⟩
  suffices h2 : ∃ t, PSs (cxOf (L2.CX c.P c.w) c.P c.w c.K mg base N_odds "odds" (defScope s_odds) f cdv A outer s H E) (defBody s_odds) t ∧ SndS c (fun cls dd _ H => E cls dd H) t (dn_odds c) by
    obtain ⟨t, h3, h4⟩ := h2
    exact ⟨t, h3, fn_bodyX h4 (by decide) h⟩
  refine ⟨_, (pss_cons (ps_expr (pe_dfX (W := fun cls dd _ H => E cls dd H) h_check_column (by exact ⟨⟨rfl, rfl, rfl⟩, rfl, rfl⟩) (takes_of rfl rfl rfl rfl) hr (by rfl) (pa_cons (pe_fld (pv 0) rfl) (pa_cons (pv 1) pa_nil)))) (pss_cons (ps_setLc (own := [("pair", 5)]) (g := (gName 5)) (i := 4) rfl sc_odds.nd rfl rfl (sw_true rfl rfl rfl (by decide +kernel)) (pi_list (pe_df h_pairs_of (by exact ⟨⟨rfl, rfl, rfl⟩, rfl, rfl⟩) hr (by rfl) (pa_cons (pv 0) (pa_cons (pv 1) pa_nil)))) (blkOk_by (N := N_odds) (sc := defScope s_odds) (by decide +kernel)) (fun _ _ _ _ _ => (pg_name (i := 5) sc_odds.nd rfl (Or.inl rfl))) (fun _ _ _ _ _ => pts_one ((pw_and (pt_cmpR (op_eqE hQ (by exact ⟨⟨rfl, rfl, rfl⟩, rfl, rfl⟩) hr (by exact hu64 hr)) (pe_ix (ix_D (by exact ⟨rfl, rfl, rfl⟩)) (pv 5) pe_int (fun _ _ => rfl)) (pv 2) (nomark _)) (pw_and1 (pt_val (pe_callB (call_isiD (by exact ⟨rfl, rfl, rfl⟩) hW) (by rfl) (by exact hB.isinstance) bb_isinstance (pa_cons (pv 2) (pa_cons (pe_ty (by exact hB.tuple) bb_tuple (by rfl)) pa_nil))))))).pt) (fun _ _ _ _ _ => (pv 5))) (pss_cons (ps_if ((pw_or (pt_cmpR (op_eqX (by exact ⟨rfl, rfl, rfl⟩) (by exact hu64 hr)) (pe_callB (call_lenD (by exact ⟨rfl, rfl, rfl⟩)) (by rfl) (by exact hB.len) bb_len (pa_cons (pv 4) pa_nil)) pe_int (nomark _)) (pw_or1 (pt_val (pe_callB (cr_anyD (by exact ⟨rfl, rfl, rfl⟩) rfl) (by rfl) (by exact hB.any) bb_any (pa_cons (pe_lc (own := [("item", 7)]) (g := (gName 7)) rfl sc_odds.nd (pi_tup (pv 2)) (blkOk_by (N := N_odds) (sc := defScope s_odds) (by decide +kernel)) (fun _ _ _ _ _ => (pg_name (i := 7) sc_odds.nd rfl (Or.inl rfl))) (fun _ _ _ _ _ => pts_nil) (fun _ _ _ _ _ => (pe_callB (call_isiD (by exact ⟨rfl, rfl, rfl⟩) hW) (by rfl) (by exact hB.isinstance) bb_isinstance (pa_cons (pv 7) (pa_cons (pe_ty (by exact hB.bool) bb_bool (by rfl)) pa_nil))))) pa_nil)))))).pt (pss_one (ps_raise (W := fun cls dd _ H => E cls dd H) rfl (takes_of rfl rfl rfl rfl) (pmk_o hXP (by exact ⟨⟨rfl, rfl, rfl⟩, rfl, rfl⟩) (by rfl)))) pss_nil) (pss_cons (ps_expr (pe_dfX (W := fun cls dd _ H => E cls dd H) h_check_calm (by exact ⟨⟨rfl, rfl, rfl⟩, rfl, rfl⟩) (takes_of rfl rfl rfl rfl) hr (by rfl) (pa_cons (pv 0) pa_nil))) (pss_cons (ps_set (i := 3) sc_odds.nd rfl (Or.inr rfl) (pe_df h_quotients_along (by exact ⟨⟨rfl, rfl, rfl⟩, rfl, rfl⟩) hr (by rfl) (pa_cons (pv 0) (pa_cons (pe_ix (ix_D (by exact ⟨rfl, rfl, rfl⟩)) (pe_ix (ix_D (by exact ⟨rfl, rfl, rfl⟩)) (pv 4) pe_int (fun _ _ => rfl)) pe_int (fun _ _ => rfl)) (pa_cons (pe_ix (ix_D (by exact ⟨rfl, rfl, rfl⟩)) (pe_ix (ix_D (by exact ⟨rfl, rfl, rfl⟩)) (pv 4) pe_int (fun _ _ => rfl)) pe_int (fun _ _ => rfl)) pa_nil))))) (pss_one (ps_ret (pe_dcN (own := [("content", 6)]) (g := (gName 6)) (by exact ⟨rfl, rfl, rfl⟩) (by exact hu64 hr) rfl sc_odds.nd (pi_keysN (c := c) (pv 3)) (blkOk_by (N := N_odds) (sc := defScope s_odds) (by decide +kernel)) (fun _ _ _ _ _ => (pg_name (i := 6) sc_odds.nd rfl (Or.inl rfl))) (fun _ _ _ _ _ => pts_nil) (fun _ _ _ _ _ => (pe_df h_without (by exact ⟨⟨rfl, rfl, rfl⟩, rfl, rfl⟩) hr (by rfl) (pa_cons (pv 6) (pa_cons (pv 1) pa_nil)))) (fun _ _ _ _ _ => (pe_ixN (by exact ⟨rfl, rfl, rfl⟩) (by exact hu64 hr) (pv 3) (pv 6) (fun _ _ => rfl))))))))))), ?_⟩
  exact (ss_seq (ss_callX (snd_cons (snd_sizes hW snd_var) (snd_cons snd_var snd_nil))) (ss_seq (ss_asg (i := 4) (snd_comp (si_list (snd_call (snd_cons snd_var (snd_cons snd_var snd_nil)))) sg_name (st_and (st_test (snd_eqW (E := E0) (snd_bin snd_var (snd_c fun _ => .int _)) snd_var)) (st_val (snd_fn (snd_cons snd_var (snd_cons (snd_c fun _ => .ty _) snd_nil))))) snd_var)) (ss_seq (ss_if (st_or (st_test (snd_bin (snd_fn (snd_cons snd_var snd_nil)) (snd_c fun _ => .int _))) (st_val (snd_fn (snd_cons (snd_comp (si_tup snd_var) sg_name st_yes (snd_fn (snd_cons snd_var (snd_cons (snd_c fun _ => .ty _) snd_nil)))) snd_nil)))) ss_raiseP ss_next) (ss_seq (ss_callX (snd_cons snd_var snd_nil)) (ss_seq (ss_asg (i := 3) (snd_call (snd_cons snd_var (snd_cons (snd_bin (snd_bin snd_var (snd_c fun _ => .int _)) (snd_c fun _ => .int _)) (snd_cons (snd_bin (snd_bin snd_var (snd_c fun _ => .int _)) (snd_c fun _ => .int _)) snd_nil))))) (ss_retDc (si_keysN snd_var) sg_name st_yes (snd_call (snd_cons snd_var (snd_cons snd_var snd_nil))) (snd_bin snd_var snd_var)))))))
end Dl
/-! _law_told: try, except, the suite. -/
namespace Dl
open PySem PySem.Spec PyProof.Rows L2
/-- xs.count(y), flat items -/
def rCount (K : PySem.W.Frag) : V → List V → Hp → VK → Prop := fun x xs H Q => ∃ (a : Addr) (ys : List V) (y : V), x = V.ref a ∧ xs = [y] ∧ SqL K H a ys ∧ flatV y = true ∧ ys.all flatV = true ∧ Q (.int (ys.countP (fun z => eqV z y) : Nat)) H
theorem countP_eqU {x : V} : ∀ {xs : List V} {us : List Value}, Vals xs us → xs.all flatV = true → us.countP (eqU x) = xs.countP fun y => eqV y x
  | _, _, .nil, _ => rfl
  | y :: xs, u :: us, .cons r t, f => by
    rw [List.all_cons, Bool.and_eq_true] at f
    rw [List.countP_cons, List.countP_cons, eqU_of r f.1, countP_eqU t f.2]
section
variable {X : Cx}
theorem mt_count : MtR X "list.count" (rCount X.K) := by
  intro pins s σ H x xs v us Q I rx rxs h
  obtain ⟨a, ys, y, rfl, rfl, hs, fy, fys, q⟩ := h
  cases rx
  cases rxs with
  | cons ry rt =>
    rename_i uy ut
    cases rt
    obtain ⟨its, rv, ⟨⟨cls, dd, data, sl⟩, n, ho, hc, hdn, hd⟩, hlen⟩ := I.list hs
    simp only at hc hd
    subst hc hd
    refine call_meets PySem.F.slot_list_count ⟨_, ho, rfl⟩ PySem.F.entry_list_count (PySem.F.args_list_count_2 _ _)
      (SeqAt.list_countAt a its.toArray n dd sl uy (eqU y)) ⟨ho, fun u' hu' => mem_eqAt ry fy rv fys u' (by simpa using hu'), ?_⟩
    refine ⟨.int (ys.countP (fun z => eqV z y) : Nat), H, I.tok _, ⟨s.toks, ?_⟩, q⟩
    show Value.int ((its.toArray.toList.countP (eqU y) : Nat) : Int) s.toks = _
    rw [show its.toArray.toList = its by simp, countP_eqU rv fys]
/-- isinstance(e, c), e the exception that the suite holds, its dict made or not -/
def rIsX (K : PySem.W.Frag) (a : Addr) (cls : Value) (d : Option Addr) : List V → Hp → VK → Prop := fun xs H Q => ∃ (D : Addr) (cv : V) (u0 : Value) (b : Bool), cls = .ref D ∧ ExcC K D ∧ (d = none ∨ ∃ dd fs, d = some dd ∧ H dd = some (.xd fs)) ∧ xs = [.ref a, cv] ∧ (∀ u, RelV cv u → u = u0) ∧ PySem.W.kitOne K (.ref D) u0 = some b ∧ Q (.bl b) H
theorem call_isX {a : Addr} {oe : Obj} {cls : Value} {d : Option Addr} {pn : List (Addr × Obj)} (hz : Zc cls d oe) (hf : ∃ vs, oe.data = .fields vs) : CallR (X.suite a ((a, oe) :: pn)) (.builtin "isinstance") (rIsX X.K a cls d) := by
  intro pins s σ H xs us Q I r h
  obtain ⟨D, c, cv, b, rfl, C, hdd, rfl, hcv, e, q⟩ := h
  cases r with
  | cons rx rr =>
    cases rr with
    | cons rt rr =>
      cases rr
      cases rx
      have ec := hcv _ rt
      subst ec
      obtain ⟨hget, _⟩ := I.pin (a, oe) (List.mem_append.mpr (.inl List.mem_cons_self))
      obtain ⟨vs, hv⟩ := hf
      have hcl : (PySem.W.clsIn X.K D).isSome = true := by
        have := C.hd
        unfold PySem.W.hasDictIn at this
        cases q : PySem.W.clsIn X.K D with
        | none => rw [q] at this; cases this
        | some _ => rfl
      obtain ⟨od, J⟩ : ∃ od, PySem.W.InstAt s.heap a oe D od := by
        obtain ⟨oc, oda, odt, osl⟩ := oe
        obtain ⟨h1, h2⟩ := hz
        dsimp only at h1 h2 hv
        subst h1 h2 hv
        rcases hdd with rfl | ⟨dd, fs, rfl, hdd⟩
        · exact ⟨none, hget, rfl, rfl, trivial⟩
        · have hx : ObjOk X.prog X.w H s.heap dd (.xd fs) := I.hok dd _ hdd
          obtain ⟨mA, hns, hr⟩ := hx
          obtain ⟨od, ho, hl⟩ := lookIn_ns hns
          exact ⟨some od, hget, rfl, rfl, ho⟩
      exact PySem.W.kia_one (PySem.W.kitx_exc hcl C.hg C.hk C.hs C.ha C.hn C.ht C.hm) I.kIn J e (fun z => nomatch z) fun tk => ⟨.bl b, H, I.kept (t' := tk) fun _ _ z => z, rfl, q⟩
end
end Dl
namespace Dl
open PySem PySem.Spec PyProof.Rows L2
/-- what is known of the errors' classes -/
structure Tf (c : Cf) (mg : Str → Option Value) (cV cB : Addr) : Prop where
  gC : mg "NoColumn" = some (.ref c.cNC)
  gP : mg "NoPattern" = some (.ref c.cNP)
  gM : mg "NotCalm" = some (.ref c.cNM)
  gV : mg "NoView" = some (.ref cV)
  gB : mg "BlankError" = some (.ref cB)
  ve : mg "ValueError" = none
  eC : ExcC c.K c.cNC
  eP : ExcC c.K c.cNP
  eM : ExcC c.K c.cNM
  xf : XfC c.K c.cNM
  no : PySem.W.findIn c.K (.ref c.cNM) "column" = some none
  kC : PySem.W.kitOne c.K (.ref c.cNC) (.ref c.cNC) = some true ∧ PySem.W.kitOne c.K (.ref c.cNC) (.ref c.cNP) = some false ∧ PySem.W.kitOne c.K (.ref c.cNC) (.ref c.cNM) = some false ∧ PySem.W.kitOne c.K (.ref c.cNC) (.ref cV) = some false ∧ PySem.W.kitOne c.K (.ref c.cNC) (.type "ValueError") = some true ∧ PySem.W.exmOne c.K (.ref c.cNC) (.ref cB) = some true
  kP : PySem.W.kitOne c.K (.ref c.cNP) (.ref c.cNC) = some false ∧ PySem.W.kitOne c.K (.ref c.cNP) (.ref c.cNP) = some true ∧ PySem.W.kitOne c.K (.ref c.cNP) (.ref c.cNM) = some false ∧ PySem.W.kitOne c.K (.ref c.cNP) (.ref cV) = some false ∧ PySem.W.kitOne c.K (.ref c.cNP) (.type "ValueError") = some true ∧ PySem.W.exmOne c.K (.ref c.cNP) (.ref cB) = some true
  kM : PySem.W.kitOne c.K (.ref c.cNM) (.ref c.cNC) = some false ∧ PySem.W.kitOne c.K (.ref c.cNM) (.ref c.cNP) = some false ∧ PySem.W.kitOne c.K (.ref c.cNM) (.ref c.cNM) = some true ∧ PySem.W.kitOne c.K (.ref c.cNM) (.ref cV) = some false ∧ PySem.W.kitOne c.K (.ref c.cNM) (.type "ValueError") = some true ∧ PySem.W.exmOne c.K (.ref c.cNM) (.ref cB) = some true
abbrev s_told : Stmt := top 66
abbrev N_told : List Str := ["_law_whole", "_law_column", "_law_pattern", "_law_answer", "e", "_law_flags", "_law_word"]
theorem sc_told : FnScope N_told ["_law_whole", "_law_column", "_law_pattern"] (defScope s_told) := ⟨rfl, rfl, rfl, by decide +kernel, rfl, by decide +kernel, by decide +kernel⟩
section
variable (c : Cf) (cV : Addr)
def tIs (K : PySem.W.Frag) (a : Addr) (cls : Value) (d : Option Addr) (v : V) : TE := tCB (rIsX K a cls d) (tCons (tVar 4) (tCons (tC v) tNil))
def tToldS (a : Addr) (cls : Value) (d : Option Addr) : TS :=
  tSeq (tAsg (tLst (tCons (tIs c.K a cls d (.ref c.cNC)) (tCons (tIs c.K a cls d (.ref c.cNP)) (tCons (tIs c.K a cls d (.ref c.cNM)) (tCons (tIs c.K a cls d (.ref cV)) tNil))))) (gName 5))
  (tSeq (tAsg (tIf (tTest (tOp rEq (tBM c.K "list" (rCount c.K) (tVar 5) (tCons (tC (.bl true)) tNil)) (tC (.int 1)))) (tOp (rIxL c.K) (tLst (tCons (tC (.str "column")) (tCons (tC (.str "pattern")) (tCons (tC (.str "calm")) (tCons (tC (.str "view")) tNil))))) (tBM c.K "list" (rIndex c.K) (tVar 5) (tCons (tC (.bl true)) tNil))) (tC (.str ""))) (gName 6))
  (tAsg (tTup (tCons (tC (.str "refused")) (tCons (tIf (tB (tIs c.K a cls d (.ty "ValueError"))) (tVar 6) (tC (.str ""))) (tCons (tIf (tB (tIs c.K a cls d (.ref c.cNM))) (tXf a cls d c.cNM "column" (tVar 4)) (tC .non)) tNil)))) (gName 3)))
def tToldB (G : FnX) (W : WX') : TS := tAsg (tTup (tCons (tC (.str "told")) (tCons (tCallS (spX c G) (WE W) (tCons (tVar 0) (tCons (tVar 1) (tCons (tVar 2) tNil)))) tNil))) (gName 3)
def tTold (cB : Addr) (G : FnX) : TS := tSeq (tAsg (tTup (tCons (tC (.str "told")) (tCons (tC .non) tNil))) (gName 3)) (tSeq (fun D σ H => tToldB c G (wAs c.K (.ref cB) 4 (tToldS c cV) (fun _ _ _ _ => False) D) D σ H) (tRet (tVar 3)))
end
theorem pss_told {c : Cf} {mg : Str → Option Value} {base : Heap} {cV cB f : Addr} {cdv : Value} {A : Around} {outer : List PySem.Env} {s : Shared} {H : Hp} {E : XK} {k j : Nat} {G : FnX} (hB : Bt mg) (T : Tf c mg cV cB) (D : DfX c mg base "odds" k G) (hr : Room j (A.deeper (envOfC "_law_told" (defScope s_told) s.heap.objs.size f cdv))) (hj : k ≤ j) :
    PSs (cxOf CX0 c.P c.w c.K mg base N_told "_law_told" (defScope s_told) f cdv A outer s H E) (defBody s_told) (tTold c cV cB G) := by
  refine pss_cons (ps_set (i := 3) sc_told.nd rfl (Or.inl rfl) (pe_tup (pa_cons pe_str (pa_cons pe_non pa_nil)))) (pss_cons (ps_try_as (i := 4) (tb := fun W => tToldB c G W) (ts := tToldS c cV) (Wout := fun _ _ _ _ => False) rfl rfl sc_told.nd rfl rfl ⟨rfl, by decide, Or.inl T.gB⟩ takes0 (fun W pn xe tk _ => ?_) (fun a oe cls d pn hz hf => ?_)) (pss_one (ps_ret (pv 3))))
  · exact pss_one (ps_set (i := 3) sc_told.nd rfl (Or.inl rfl) (pe_tup (pa_cons pe_str (pa_cons (pe_dfX D (by exact ⟨⟨rfl, rfl, rfl⟩, rfl, rfl⟩) tk hr (by rfl) (pa_cons (pv 0) (pa_cons (pv 1) (pa_cons (pv 2) pa_nil))) hj) pa_nil))))
  · have ov : Ov c mg base ((cxOf CX0 c.P c.w c.K mg base N_told "_law_told" (defScope s_told) f cdv A outer s H E).suite a ((a, oe) :: pn)) := ⟨⟨rfl, rfl, rfl⟩, rfl, rfl⟩
    exact pss_cons (ps_set (i := 5) sc_told.nd rfl (Or.inl rfl) (pe_lst (pa_cons (pe_callB (call_isX hz hf) (by rfl) (by exact hB.isinstance) bb_isinstance (pa_cons (pv 4) (pa_cons (pe_gr ov T.gC (by rfl)) pa_nil)))
        (pa_cons (pe_callB (call_isX hz hf) (by rfl) (by exact hB.isinstance) bb_isinstance (pa_cons (pv 4) (pa_cons (pe_gr ov T.gP (by rfl)) pa_nil)))
        (pa_cons (pe_callB (call_isX hz hf) (by rfl) (by exact hB.isinstance) bb_isinstance (pa_cons (pv 4) (pa_cons (pe_gr ov T.gM (by rfl)) pa_nil)))
        (pa_cons (pe_callB (call_isX hz hf) (by rfl) (by exact hB.isinstance) bb_isinstance (pa_cons (pv 4) (pa_cons (pe_gr ov T.gV (by rfl)) pa_nil))) pa_nil))))))
      (pss_cons (ps_set (i := 6) sc_told.nd rfl (Or.inl rfl) (pe_ifExp (pt_cmpR op_eq (pe_bm PySem.F.plainAttrs_list PySem.F.slot_list_count PySem.F.type_list_count mt_count (pv 5) (pa_cons pe_bl pa_nil)) pe_int (nomark _))
        (pe_ix ix_list (pe_lst (pa_cons pe_str (pa_cons pe_str (pa_cons pe_str (pa_cons pe_str pa_nil))))) (pe_bm PySem.F.plainAttrs_list PySem.F.slot_list_index PySem.F.type_list_index mt_index (pv 5) (pa_cons pe_bl pa_nil)) (fun _ _ => rfl)) pe_str))
      (pss_one (ps_set (i := 3) sc_told.nd rfl (Or.inl rfl) (pe_tup (pa_cons pe_str (pa_cons (pe_ifExp (pt_val (pe_callB (call_isX hz hf) (by rfl) (by exact hB.isinstance) bb_isinstance (pa_cons (pv 4) (pa_cons (pe_ty T.ve PyProof.Rows.Boot.«ValueError» (by rfl)) pa_nil)))) (pv 6) pe_str)
        (pa_cons (pe_ifExp (pt_val (pe_callB (call_isX hz hf) (by rfl) (by exact hB.isinstance) bb_isinstance (pa_cons (pv 4) (pa_cons (pe_gr ov T.gM (by rfl)) pa_nil)))) (pe_xf T.xf T.no hz hf (pv 4)) pe_non) pa_nil)))))))
end Dl
/-! _law_told: what it computes. -/
namespace Dl
open PySem PySem.Spec PyProof.Rows L2
theorem ifT {b : Bool} {A B : Prop} (hb : b = true) (h : A) : if b = true then A else B := by rw [if_pos hb]; exact h
theorem ifF {b : Bool} {A B : Prop} (hb : b = false) (h : B) : if b = true then A else B := by rw [hb, if_neg Bool.false_ne_true]; exact h
theorem told_suite {c : Cf} {mg : Str → Option Value} {cV cB : Addr} (T : Tf c mg cV cB) {a D : Addr} {d : Option Addr} {b1 b2 b3 : Bool} {w : Str} {v : V} {σ : L2.St} {H : Hp} {N : Ends} (e4 : σ[4]? = some (some (.ref a))) (ln : σ.length = 7) (C : ExcC c.K D) (hd : d = none ∨ ∃ dd fs, d = some dd ∧ H dd = some (.xd fs))
    (k1 : PySem.W.kitOne c.K (.ref D) (.ref c.cNC) = some b1) (k2 : PySem.W.kitOne c.K (.ref D) (.ref c.cNP) = some b2) (k3 : PySem.W.kitOne c.K (.ref D) (.ref c.cNM) = some b3) (k4 : PySem.W.kitOne c.K (.ref D) (.ref cV) = some false) (k5 : PySem.W.kitOne c.K (.ref D) (.type "ValueError") = some true)
    (hw : (b1 = true ∧ b2 = false ∧ b3 = false ∧ w = "column") ∨ (b1 = false ∧ b2 = true ∧ b3 = false ∧ w = "pattern") ∨ (b1 = false ∧ b2 = false ∧ b3 = true ∧ w = "calm"))
    (hv : (b3 = false ∧ v = .non) ∨ (b3 = true ∧ D = c.cNM ∧ ∃ dd, d = some dd ∧ H dd = some (.xd [(("column" : Str), v)])))
    (q : ∀ σ' H0 p, Ex H H0 → H0 p = none → σ'.length = 7 → (∀ i, i < 3 → σ'[i]? = σ[i]?) → σ'[3]? = some (some (.ref p)) → N.nx σ' (upd H0 p (.tup [.str "refused", .str w, v]))) : tToldS c cV a (.ref D) d N σ H := by
  have is : ∀ {x : Addr} {b : Bool} {H' : Hp} {σ' : L2.St} {Q : VK}, σ'[4]? = some (some (.ref a)) → Ex H H' → PySem.W.kitOne c.K (.ref D) (.ref x) = some b → Q (.bl b) H' → tIs c.K a (.ref D) d (.ref x) σ' H' Q := fun {x b H' σ' Q} h4 ex hk hq =>
    ⟨_, h4, D, .ref x, .ref x, b, rfl, C, hd.imp id (fun ⟨dd, fs, e1, e2⟩ => ⟨dd, fs, e1, ex _ _ e2⟩), rfl, fun u r => r, hk, hq⟩
  refine is e4 (Ex.refl H) k1 (is e4 (Ex.refl H) k2 (is e4 (Ex.refl H) k3 (is e4 (Ex.refl H) k4 ⟨(show 4 ≤ sizeLine by decide), fun p1 hp1 => ?_⟩)))
  have hj : ∃ (j : Nat), ([V.bl b1, .bl b2, .bl b3, .bl false].countP fun z => eqV z (.bl true)) = 1 ∧ [V.bl b1, .bl b2, .bl b3, .bl false][j]? = some (.bl true) ∧ (∀ (m : Nat) (z' : V), m < j → [V.bl b1, .bl b2, .bl b3, .bl false][m]? = some z' → eqV z' (.bl true) = false) ∧ atI [V.str "column", .str "pattern", .str "calm", .str "view"] (j : Nat) = some (.str w) := by
    rcases hw with ⟨rfl, rfl, rfl, rfl⟩ | ⟨rfl, rfl, rfl, rfl⟩ | ⟨rfl, rfl, rfl, rfl⟩
    · exact ⟨0, rfl, rfl, fun m z' h => absurd h (Nat.not_lt_zero m), rfl⟩
    · refine ⟨1, rfl, rfl, fun m z' h e => ?_, rfl⟩
      obtain rfl : m = 0 := by omega
      cases e; rfl
    · refine ⟨2, rfl, rfl, fun m z' h e => ?_, rfl⟩
      rcases (show m = 0 ∨ m = 1 by omega) with rfl | rfl <;> (cases e; rfl)
  obtain ⟨j, hc, hj1, hj2, hj3⟩ := hj
  generalize hfl : [V.bl b1, .bl b2, .bl b3, .bl false] = fl at hc hj1 hj2
  have hfl2 : fl.all flatV = true := by rw [← hfl]; rfl
  have hfl : [V.bl b1, V.bl b2, V.bl b3, V.bl false] = fl := hfl
  have e1 : Ex H (upd H p1 (.lst fl)) := Ex.new hp1
  have s5 : (σ.set 5 (some (.ref p1)))[5]? = some (some (.ref p1)) := by rw [List.getElem?_set_self (by omega)]
  have sq : SqL c.K (upd H p1 (.lst fl)) p1 fl := .inl (.inl upd_same)
  refine ⟨.ref p1, s5, .inl ⟨rfl, fl, sq⟩, p1, fl, .bl true, rfl, rfl, sq, rfl, hfl2, rfl, _, rfl, ?_⟩
  rw [hc]
  refine ifT (decide_eq_true rfl) ?_
  refine ⟨(show 4 ≤ sizeLine by decide), fun p2 hp2 => ?_⟩
  have e2 : Ex (upd H p1 (.lst fl)) (upd (upd H p1 (.lst fl)) p2 (.lst [V.str "column", .str "pattern", .str "calm", .str "view"])) := Ex.new hp2
  have sq2 := e2.sqL sq
  refine ⟨.ref p1, s5, .inl ⟨rfl, fl, sq2⟩, p1, fl, .bl true, j, .bl true, rfl, rfl, sq2, rfl, hfl2, hj1, rfl, hj2, p2, _, _, _, rfl, rfl, .inl (.inl upd_same), hj3, ?_⟩
  generalize hH2 : upd (upd H p1 (.lst fl)) p2 (.lst [V.str "column", .str "pattern", .str "calm", .str "view"]) = H2 at e2
  have e3 : Ex H H2 := e1.trans e2
  have l6 : ((σ.set 5 (some (.ref p1))).set 6 (some (.str w))).length = 7 := by simp [ln]
  have s4 : ((σ.set 5 (some (.ref p1))).set 6 (some (.str w)))[4]? = some (some (.ref a)) := by
    rw [List.getElem?_set_ne (by decide), List.getElem?_set_ne (by decide)]; exact e4
  have s6 : ((σ.set 5 (some (.ref p1))).set 6 (some (.str w)))[6]? = some (some (.str w)) := by rw [List.getElem?_set_self (by simp [ln])]
  have fin : ∀ p, H2 p = none → N.nx (((σ.set 5 (some (.ref p1))).set 6 (some (.str w))).set 3 (some (.ref p))) (upd H2 p (.tup [.str "refused", .str w, v])) := fun p hp => by
    refine q _ H2 p e3 hp (by simp [ln]) (fun i hi => ?_) ?_
    · rw [List.getElem?_set_ne (by omega), List.getElem?_set_ne (by omega), List.getElem?_set_ne (by omega)]
    · rw [List.getElem?_set_self (by simp [ln])]
  refine ⟨_, s4, D, .ty "ValueError", .type "ValueError", true, rfl, C, hd.imp id (fun ⟨dd, fs, e1, e2⟩ => ⟨dd, fs, e1, e3 _ _ e2⟩), rfl, fun u r => r, k5, true, rfl, ?_⟩
  refine ifT rfl ?_
  refine ⟨_, s6, is s4 e3 k3 ⟨_, rfl, ?_⟩⟩
  rcases hv with ⟨rfl, rfl⟩ | ⟨rfl, rfl, dd, rfl, hdd⟩
  · refine ifF rfl ?_
    exact ⟨(show 3 ≤ sizeLine by decide), fin⟩
  · refine ifT rfl ?_
    exact ⟨.ref a, s4, rfl, rfl, dd, _, v, rfl, e3 _ _ hdd, by simp [List.lookup], (show 3 ≤ sizeLine by decide), fin⟩
end Dl
namespace Dl
open PySem PySem.Spec PyProof.Rows L2
/-- what _law_told gives, of what the odds give -/
def toldOf : Option (Res × HS) → Option (Res × HS)
  | some (.retO (.dic z kvs), h) => some (.retO (.tup [.str "told", .dic z kvs]), h)
  | some (.exc .noCol, h) => some (.ret (.tup [.str "refused", .str "column", .non]), h)
  | some (.exc .noPat, h) => some (.ret (.tup [.str "refused", .str "pattern", .non]), h)
  | some (.exc (.notCalm i), h) => some (.ret (.tup [.str "refused", .str "calm", .int i]), h)
  | _ => none
def toldX (G : FnX) : FnX := fun ds hs => if ds.length = 3 then toldOf (G ds hs) else none
theorem pure_told {c : Cf} {mg : Str → Option Value} {cV cB : Addr} (T : Tf c mg cV cB) {G : FnX} {vs : List V} {H : Hp} {Q : VK} {E : XK} (h : spX c (toldX G) vs H Q E) : tTold c cV cB G { nx := fun _ H' => Q .non H', rt := Q } (L2.start N_told vs) H := by
  obtain ⟨ds, hs, r, hs', F, e, sub, nt, hF, hh, tb, fv, q⟩ := h
  unfold toldX at e
  split at e <;> try (cases e; done)
  rename_i hl
  obtain ⟨x, y, z, rfl⟩ : ∃ x y z, vs = [x, y, z] := by
    have := fv.length
    rw [hl] at this
    match vs, this with
    | [x, y, z], _ => exact ⟨x, y, z, rfl⟩
  refine ⟨(show 2 ≤ sizeLine by decide), fun p0 hp0 => ?_⟩
  have e0 : Ex H (upd H p0 (.tup [.str "told", .non])) := Ex.new hp0
  generalize hH0 : upd H p0 (.tup [.str "told", .non]) = H0 at e0
  have hn : ∀ b, H0 b = none → H b = none := fun b w => e0.back w
  have n0 : Nx c none F H F H0 := Nx.stay sub nt e0
  have n0' : Nx c (some hs.ad) F H F H0 := Nx.stay sub nt e0
  show tToldB c G (wAs c.K (.ref cB) 4 (tToldS c cV) (fun _ _ _ _ => False) _) _ [some x, some y, some z, some (.ref p0), none, none, none] H0
  cases eG : G ds hs with
  | none => rw [eG] at e; cases e
  | some rg =>
    obtain ⟨rg, hg⟩ := rg
    rw [eG] at e
    refine ⟨x, rfl, y, rfl, z, rfl, ds, hs, rg, hg, F, eG, n0.sub, nt, hF, ⟨e0 _ _ hh.1, hh.2⟩, tb.ext e0, fv, ?_⟩
    -- the suite
    have suite : ∀ (cA : Addr) (d : Option Addr) (b1 b2 b3 : Bool) (w : Str) (v : V) (dv : D) (H' F' : Hp), hs' = hg → r = .ret (.tup [.str "refused", .str w, dv]) → HSm hs hg → Nx c (some hs.ad) F H0 F' H' → F' hg.ad = none → (H' hg.ad = some (.dK (handK hg)) ∧ FD c F' (.ref hg.la) (.lst (hg.cells.map D.int))) → (∀ F2, FD c F2 v dv) →
        ExcC c.K cA → (d = none ∨ ∃ dd fs, d = some dd ∧ H' dd = some (.xd fs)) → PySem.W.kitOne c.K (.ref cA) (.ref c.cNC) = some b1 → PySem.W.kitOne c.K (.ref cA) (.ref c.cNP) = some b2 → PySem.W.kitOne c.K (.ref cA) (.ref c.cNM) = some b3 → PySem.W.kitOne c.K (.ref cA) (.ref cV) = some false → PySem.W.kitOne c.K (.ref cA) (.type "ValueError") = some true → PySem.W.exmOne c.K (.ref cA) (.ref cB) = some true →
        ((b1 = true ∧ b2 = false ∧ b3 = false ∧ w = "column") ∨ (b1 = false ∧ b2 = true ∧ b3 = false ∧ w = "pattern") ∨ (b1 = false ∧ b2 = false ∧ b3 = true ∧ w = "calm")) → ((b3 = false ∧ v = .non) ∨ (b3 = true ∧ cA = c.cNM ∧ ∃ dd, d = some dd ∧ H' dd = some (.xd [(("column" : Str), v)]))) →
        wAs c.K (.ref cB) 4 (tToldS c cV) (fun _ _ _ _ => False) { nx := fun σ H => tRet (tVar 3) { nx := fun _ H' => Q .non H', rt := Q } σ H, rt := Q } (.ref cA) d [some x, some y, some z, some (.ref p0), none, none, none] H' := by
      intro cA d b1 b2 b3 w v dv H' F' eh er a n hf hh' fdv C hd k1 k2 k3 k4 k5 kx hw hv
      subst eh er
      refine ⟨true, kx, fun _ ea hea => ?_, fun w => by cases w⟩
      refine told_suite T (σ := [some x, some y, some z, some (.ref p0), some (.ref ea), none, none]) rfl rfl C hd k1 k2 k3 k4 k5 hw hv fun σ' H2 p ex hp ln _ h3 => ?_
      have n2 : Nx c (some hs.ad) F' H' (upd F' p (.tup [.str "refused", .str w, v])) (upd H2 p (.tup [.str "refused", .str w, v])) := (Nx.stay n.sub n.nt ex).trans (Nx.lay (n.sub.trans ex) n.nt hp (by intro ps z; cases z))
      have fe : Ex F' (upd F' p (.tup [.str "refused", .str w, v])) := n2.fe
      have nad : hs'.ad ≠ p := fun z => by
        have := ex _ _ hh'.1
        rw [z, hp] at this
        cases this
      refine ⟨.ref p, by rw [List.getElem?_set_ne (by decide)]; exact h3, ?_⟩
      exact q (.ref p) _ _ a (n0'.trans (n.trans n2)) (by rw [upd_ne nad]; exact hf) ⟨by rw [upd_ne nad]; exact ex _ _ hh'.1, hh'.2.mono fe⟩ (.tup (.inl (.inl upd_same)) (.cons (.str _) (.cons (.str _) (.cons (fdv _) .nil))))
    cases rg with
    | nx _ => cases e
    | ret _ => cases e
    | retO d =>
      cases d with
      | dic zb kvs =>
        cases e
        intro v p H' F' a n hf hh' own hFp hp
        cases own with
        | dic hx fk =>
        refine ⟨(show 2 ≤ sizeLine by decide), fun t ht => ?_⟩
        have nl := Nx.lay (c := c) (ad := some hs.ad) (o := .tup [.str "told", .ref p]) n.sub n.nt ht (by intro ps z; cases z)
        have nad : hs'.ad ≠ t := fun z => by rw [z, ht] at hh'; cases hh'.1
        have npt : p ≠ t := fun z => by rw [z, ht] at hx; cases hx
        refine ⟨.ref t, rfl, ?_⟩
        exact q (.ref t) p _ _ a (n0'.trans (n.trans nl)) (by rw [upd_ne nad]; exact hf) ⟨by rw [upd_ne nad]; exact hh'.1, hh'.2.mono nl.fe⟩ (.told upd_same (by rw [upd_ne npt]; exact hx) (fk.mono nl.fe)) (by rw [upd_ne npt]; exact hFp) (hn _ hp)
      | _ => cases e
    | exc xx =>
      cases xx with
      | noCol =>
        cases e
        intro cls dd H' F' a n hf hh' hx
        obtain ⟨rfl, rfl⟩ := hx
        obtain ⟨k1, k2, k3, k4, k5, k6⟩ := T.kC
        exact suite c.cNC none true false false "column" .non .non H' F' rfl rfl a n hf hh' (fun _ => .non) T.eC (.inl rfl) k1 k2 k3 k4 k5 k6 (.inl ⟨rfl, rfl, rfl, rfl⟩) (.inl ⟨rfl, rfl⟩)
      | noPat =>
        cases e
        intro cls dd H' F' a n hf hh' hx
        obtain ⟨rfl, rfl⟩ := hx
        obtain ⟨k1, k2, k3, k4, k5, k6⟩ := T.kP
        exact suite c.cNP none false true false "pattern" .non .non H' F' rfl rfl a n hf hh' (fun _ => .non) T.eP (.inl rfl) k1 k2 k3 k4 k5 k6 (.inr (.inl ⟨rfl, rfl, rfl, rfl⟩)) (.inl ⟨rfl, rfl⟩)
      | notCalm i =>
        cases e
        intro cls dd H' F' a n hf hh' hx
        obtain ⟨rfl, dp, rfl, hdp⟩ := hx
        obtain ⟨k1, k2, k3, k4, k5, k6⟩ := T.kM
        exact suite c.cNM (some dp) false false true "calm" (.int i) (.int i) H' F' rfl rfl a n hf hh' (fun _ => .int i) T.eM (.inr ⟨dp, _, rfl, hdp⟩) k1 k2 k3 k4 k5 k6 (.inr (.inr ⟨rfl, rfl, rfl, rfl⟩)) (.inr ⟨rfl, rfl, dp, rfl, hdp⟩)
end Dl
namespace Dl
open PySem PySem.Spec PyProof.Rows L2
/-- what is known of a def that gives a thing of the caller's own, and raises nothing -/
structure DfT (c : Cf) (mg : Str → Option Value) (base : Heap) (x : Str) (k : Nat) (G : FnX) : Prop where
  ex : ∃ f fd ps, FnOk c.P c.w c.K mg base CX0 k f fd ps (spX c G) ∧ mg x = some (.ref f) ∧ PySem.W.keepIn c.K (.ref f) = true ∧ Binds c.K fd ps []
theorem ok_law_told {c : Cf} {mg : Str → Option Value} {base : Heap} {cV cB f : Addr} {fd : FuncData} (hB : Bt mg) (T : Tf c mg cV cB) (h_odds : DfX c mg base "odds" 7 (G_odds c)) (F : FnP c.K "_law_told" s_told f fd) (hm : mg "_law_told" = some (.ref f)) : DfT c mg base "_law_told" 8 (toldX (G_odds c)) := by
  refine ⟨f, fd, ["_law_whole", "_law_column", "_law_pattern"], F.ok sc_told (fun vs H Q E h => ?_) (fun cdv A outer s H vs Q E hr h => ⟨_, pss_told hB T h_odds hr (Nat.le_refl _), pure_told T h⟩), hm, F.kp, F.bindsN fun _ _ _ _ _ _ us hl => match us, hl with | [_, _, _], _ => rfl⟩
  obtain ⟨ds, hs, r, hs', F, e, sub, nt, hF, hh, tb, fv, q⟩ := h
  unfold toldX at e
  split at e <;> try (cases e; done)
  rename_i hl
  rw [fv.length, hl]
  rfl
section
variable {c : Cf} {X : Cx} {W : WX'} {te ta tb ti : TE} {tt : TT} {f f1 f2 : EDn} {t u : TS} {g g1 g2 : SDn} {ft : BDn} {tas : TA} {l : LDn}
theorem pe_dfT {mg : Str → Option Value} {base : Heap} {x : Str} {k j : Nat} {G : FnX} {e : Expr} {es : List Expr} {p pos : Pos} (D : DfT c mg base x k G) (o : Ov c mg base X) (hr : Room j X.A) (hg : Gl X x) (ha : PA X (e :: es) tas) (hj : k ≤ j := by decide) (hdb : (x == ("__debug__" : Str)) = false := by decide) (he : starEach (e :: es) X.env = (false, eval e X.env) :: starEach es X.env := by rfl) (hpl : (backTo pos (starEach es X.env)).any (·.1) = false := by rfl) :
    PE X (.Call (.Name x p) (e :: es) [] pos) (tCall (spX c G) [] E0 tas) := by
  obtain ⟨f, fd, ps, F, hm, hk, hb⟩ := D.ex
  have hcf := o.cf
  rw [hcf.P, hcf.w, hcf.K, ← o.mg, ← o.base] at F
  rw [hcf.K] at hk hb
  rw [← o.mg] at hm
  exact pe_call F (hr.mono hj) hg hm hk hb .nil pass0 ha hdb he hpl
/-- slot i gets a thing of one's own that stands -/
theorem DSF.own2 {B : Ba} {hs : HS} {Γ : Env} {tmp : List (D × V)} {σ : L2.St} {H F : Hp} {ow : Nat → Addr} {i : Nat} {v : V} {x : D} {p : Addr} (d : DSF c B hs Γ tmp σ H F ow) (hx : Own c F H v x p) (hF : F p = none) (hB : B.H0 p = none) (ne : ∀ j, isOwn Γ j → ow j ≠ p) (nh : ∀ q ∈ B.hd, q.1 ≠ p) :
    DSF c B hs (Γ.set i (.own x)) tmp (σ.set i (some v)) H F (fun j => if j = i then p else ow j) := by
  refine ⟨d.sub, d.nt, d.ex0, d.new, d.old, d.hF, d.hH, d.tabs, by rw [List.length_set, List.length_set]; exact d.len, fun j s h => ?_, fun j k h1 h2 => ?_, d.tmp, fun q hq => ?_, d.hnd⟩
  · by_cases ej : i = j
    · subst ej
      rw [List.getElem?_set] at h
      simp only [if_true] at h
      split at h
      · rename_i hl
        cases h
        have hl2 : i < σ.length := by rw [← d.len]; exact hl
        refine ⟨v, by rw [List.getElem?_set_self hl2], ?_, ?_, ?_⟩ <;> simp only [if_true]
        · exact hx
        · exact hF
        · exact hB
      · cases h
    · rw [List.getElem?_set_ne ej] at h ⊢
      have := d.slot j s h
      have nj : j ≠ i := fun z => ej z.symm
      simp only [if_neg nj]
      exact this
  · intro e2
    by_cases ej : j = i <;> by_cases ek : k = i
    · rw [ej, ek]
    · simp only [if_pos ej, if_neg ek] at e2
      exact absurd e2.symm (ne k ((isOwn_setO h2).resolve_left ek))
    · simp only [if_neg ej, if_pos ek] at e2
      exact absurd e2 (ne j ((isOwn_setO h1).resolve_left ej))
    · simp only [if_neg ej, if_neg ek] at e2
      exact d.sep j k ((isOwn_setO h1).resolve_left ej) ((isOwn_setO h2).resolve_left ek) e2
  · obtain ⟨a1, a2, a3, a4⟩ := d.hid q hq
    refine ⟨a1, a2, a3, fun j hj => ?_⟩
    by_cases ej : j = i
    · simp only [if_pos ej]
      exact fun z => nh q hq z.symm
    · simp only [if_neg ej]
      exact a4 j ((isOwn_setO hj).resolve_left ej)
/-- x = such a call: the slot holds what is one's own, or data -/
def sAsgX (i : Nat) (G : FnX) (l : LDn) : SDn := fun Γ hs => (l Γ hs).bind fun r => (G r.1 r.2).bind fun q => match q.1 with
  | .ret d => some (.nx (Γ.set i (.dat d)), q.2)
  | .retO d => some (.nx (Γ.set i (.own d)), q.2)
  | _ => none
theorem ss_asgX {G : FnX} {i : Nat} (h : SndA c tas l) : SndS c W (tAsg (tCall (spX c G) [] E0 tas) (gName i)) (sAsgX i G l) := by
  intro B hs Γ tmp σ H D0 r hs' e E p
  unfold sAsgX at e
  obtain ⟨⟨ds, hs1⟩, e1, e⟩ := Option.bind_eq_some_iff.mp e
  obtain ⟨⟨r1, hs2⟩, e2, e⟩ := Option.bind_eq_some_iff.mp e
  refine h B hs Γ tmp σ H D0 ds hs1 e1 _ fun vs H1 a1 ln D1 k1 => ?_
  obtain ⟨F, ow, d1⟩ := D1
  refine ⟨ds, hs1, r1, hs2, F, e2, d1.sub, d1.nt, d1.hF, d1.hH, d1.tabs, by rw [List.append_nil]; exact fds_zip ln (fun p hp => d1.tmp p (List.mem_append_left _ hp)), ?_⟩
  cases r1 with
  | nx _ => cases e
  | exc _ => cases e
  | ret d =>
    cases e
    intro v H' F' a2 n hf hh fv
    exact p (a1.trans a2) _ H' ⟨F', ow, ((d1.call n a2.ad hf hh).set fv).drop (fun p hp => List.mem_append_right _ hp)⟩
  | retO d =>
    cases e
    intro v q H' F' a2 n hf hh own hFq hq
    refine p (a1.trans a2) _ H' ⟨F', _, ((d1.call n a2.ad hf hh).own2 own hFq (d1.old.free hq) (fun j hj z => ?_) (fun b hb z => ?_)).drop (fun p hp => List.mem_append_right _ hp)⟩
    · obtain ⟨dd, hj⟩ := hj
      obtain ⟨v', e1', f', g', z'⟩ := d1.slot j _ hj
      obtain ⟨u, hu, _⟩ := f'.notT
      rw [z, hq] at hu; cases hu
    · obtain ⟨b1, _⟩ := d1.hid b hb
      obtain ⟨u, hu, _⟩ := b1.notT
      rw [z, hq] at hu; cases hu
end
end Dl
namespace Dl
open PySem PySem.Spec PyProof.Rows L2
section
variable {c : Cf} {X : Cx} {W : WX'} {tas : TA} {l : LDn}
/-- a thing that nobody will write any more is frozen as it stands -/
theorem DSF.gain {B : Ba} {hs : HS} {Γ : Env} {tmp : List (D × V)} {σ : L2.St} {H F : Hp} {ow : Nat → Addr} {p : Addr} {u : HO} (d : DSF c B hs Γ tmp σ H F ow) (hu : H p = some u) (ut : ∀ ps, u ≠ .tbl ps) (uk : ∀ kvs, u ≠ .dK kvs) (hF : F p = none) (hB : B.H0 p = none) (ne : ∀ j, isOwn Γ j → ow j ≠ p) (nh : ∀ q ∈ B.hd, q.1 ≠ p) :
    Ex F (upd F p u) ∧ DSF c B hs Γ tmp σ H (upd F p u) ow := by
  have e : Ex F (upd F p u) := Ex.new hF
  obtain ⟨hl, fl⟩ := d.hH
  have neh : hs.ad ≠ p := fun z => by rw [← z, hl] at hu; cases hu; exact uk _ rfl
  have ownk : ∀ {w : V} {y : D} {q : Addr}, Own c F H w y q → F q = none → q ≠ p → Own c (upd F p u) H w y q ∧ upd F p u q = none := fun f g n => ⟨f.mono e fun _ h => h, by rw [upd_ne n]; exact g⟩
  refine ⟨e, fun a o h => ?_, fun a ps h => ?_, d.ex0.trans e, fun a h1 h2 => ?_, d.old, by rw [upd_ne neh]; exact d.hF, ⟨hl, fl.mono e⟩, d.tabs, d.len, fun j s h => ?_, d.sep, fun q hq => (d.tmp q hq).mono e, fun q hq => ?_, d.hnd⟩
  · by_cases z : a = p
    · subst z; rw [upd_same] at h; cases h; exact hu
    · rw [upd_ne z] at h; exact d.sub a o h
  · by_cases z : a = p
    · subst z; rw [upd_same] at h; exact ut ps (Option.some.inj h)
    · rw [upd_ne z] at h; exact d.nt a ps h
  · by_cases z : a = p
    · subst z; exact hB
    · rw [upd_ne z] at h1; exact d.new a h1 h2
  · have q := d.slot j s h
    cases s with
    | dead => trivial
    | dat dd => obtain ⟨w, g1, g2⟩ := q; exact ⟨w, g1, g2.mono e⟩
    | own dd =>
      obtain ⟨w, g1, g2, g3, g4⟩ := q
      have n := ne j ⟨_, h⟩
      exact ⟨w, g1, (ownk g2 g3 n).1, (ownk g2 g3 n).2, g4⟩
  · obtain ⟨a1, a2, a3, a4⟩ := d.hid q hq
    have n := nh q hq
    exact ⟨(ownk a1 a2 n).1, (ownk a1 a2 n).2, a3, a4⟩
def eCallO (G : FnX) (l : LDn) : EDn := fun Γ hs => (l Γ hs).bind fun r => (G r.1 r.2).bind fun q => match q.1 with
  | .ret d => some (d, q.2)
  | .retO d => some (frzD d, q.2)
  | _ => none
theorem snd_callO {G : FnX} (h : SndA c tas l) : Snd c (tCall (spX c G) [] E0 tas) (eCallO G l) := by
  intro B hs Γ tmp σ H D0 d hs' e Q q
  unfold eCallO at e
  obtain ⟨⟨ds, hs1⟩, e1, e⟩ := Option.bind_eq_some_iff.mp e
  obtain ⟨⟨r1, hs2⟩, e2, e⟩ := Option.bind_eq_some_iff.mp e
  refine h B hs Γ tmp σ H D0 ds hs1 e1 _ fun vs H1 a1 ln D1 k1 => ?_
  obtain ⟨F, ow, d1⟩ := D1
  refine ⟨ds, hs1, r1, hs2, F, e2, d1.sub, d1.nt, d1.hF, d1.hH, d1.tabs, by rw [List.append_nil]; exact fds_zip ln (fun p hp => d1.tmp p (List.mem_append_left _ hp)), ?_⟩
  cases r1 with
  | nx _ => cases e
  | exc _ => cases e
  | ret x =>
    cases e
    intro v H' F' a2 n hf hh fv
    have n2 := n.he
    rw [a1.ad] at n2
    exact q v H' (a1.trans a2) ⟨F', ow, ((d1.call n a2.ad hf hh).push fv).drop (by intro p hp; simp at hp ⊢; rcases hp with h | h <;> simp [h])⟩ (k1.trans n2)
  | retO x =>
    cases e
    intro v a H' F' a2 n hf hh own hFa ha
    have n2 := n.he
    rw [a1.ad] at n2
    obtain ⟨u, hu, ut, uk⟩ := own.notT
    obtain ⟨fe, d2⟩ := (d1.call n a2.ad hf hh).gain hu ut uk hFa (d1.old.free ha) (fun j hj z => by
      obtain ⟨dd, hj⟩ := hj
      obtain ⟨v', e1', f', g', z'⟩ := d1.slot j _ hj
      obtain ⟨u, hu, _⟩ := f'.notT
      rw [z, ha] at hu; cases hu) (fun b hb z => by
      obtain ⟨b1, _⟩ := d1.hid b hb
      obtain ⟨u, hu, _⟩ := b1.notT
      rw [z, ha] at hu; cases hu)
    exact q v H' (a1.trans a2) ⟨_, ow, (d2.push (own.frz hFa hu)).drop (by intro p hp; simp at hp ⊢; rcases hp with h | h <;> simp [h])⟩ (k1.trans n2)
end
end Dl
namespace Dl
open PySem PySem.Spec PyProof.Rows L2
abbrev s_law_is_great_right : Stmt := top 69
abbrev N_law_is_great_right : List Str := ["_law_hand_here", "_law_some", "_law_sizes_here", "_law_pattern", "_law_column", "_law_weights", "_law_family", "_law_tops_here", "_law_bottoms", "_law_turn", "_law_whole", "_law_pairs", "_law_pair", "_law_key"]
theorem sc_law_is_great_right : FnScope N_law_is_great_right ["_law_hand_here"] (defScope s_law_is_great_right) := ⟨rfl, rfl, rfl, by decide +kernel, rfl, by decide +kernel, by decide +kernel⟩
noncomputable def dn_law_is_great_right (c : Cf) : SDn :=
    (sSeq (sAsg 2 (eCall (G_law_great_sizes c) (lCons (eVar 0) lNil)))
    (sSeq (sAsg 6 (eCall (G_law_some_pairs c) (lCons (eVar 0) (lCons (eVar 2) lNil))))
    (sSeq (sAsgG (eCall (G_law_tops c) (lCons (eVar 0) (lCons (eVar 2) (lCons (eVar 6) lNil)))) (gd2 7 8))
    (sSeq (sAsg 5 (eCall (G_law_bent_once c) (lCons (eVar 0) (lCons (eCall (G_law_woven c) (lCons (eVar 2) (lCons (eVar 6) (lCons (eVar 7) (lCons (eVar 8) lNil))))) lNil))))
    (sSeq (sAsg 10 (eMk c (lCons (eVar 2) (lCons (eCall (G_law_rows c) (lCons (eVar 5) (lCons (eFn dSum (lCons (eComp (lItemsK (eVar 5)) [13] (gd1 13) bYes (eBin dIxN (eVar 5) (eVar 13))) lNil)) lNil))) lNil))))
    (sSeq (sOwn 11 (.lst []))
    (sSeq (sFor (lItemsL (eVar 6)) (gd1 3)
    (sExt 11 (eComp (lRng1 (eFn dLen (lCons (eVar 2) lNil))) [4] (gd1 4) (bOf (eBin dIn (eFn dTuple (lCons (eFn dSorted (lCons (eBin dAdd (eVar 3) (eTup (lCons (eVar 4) lNil))) lNil)) lNil)) (eVar 6))) (eTup (lCons (eVar 4) (lCons (eVar 3) lNil))))))
    (sSeq (sG (frzE 11) (sAsg 1 (eComp (lItemsL (eVar 11)) [12] (gd1 12) (bOf (eBin dNotIn (eBin dIx (eVar 12) (eC (.int 0))) (eBin dIx (eVar 12) (eC (.int 1))))) (eVar 12))))
    (sSeq (sFor (lRng1 (eC (.int 2))) (gd1 9)
    (sSeq (sAsgG (eCall (G_law_any c) (lCons (eVar 0) (lCons (eVar 1) lNil))) (gd2 4 3))
    (sIf (bOf (eBin dNeU (eCallO (toldX (G_odds c)) (lCons (eVar 10) (lCons (eVar 4) (lCons (eVar 3) lNil)))) (eCall (G_law_due c) (lCons (eVar 2) (lCons (eVar 6) (lCons (eVar 5) (lCons (eVar 4) (lCons (eVar 3) lNil))))))))
    (sRet (eC (.bl false)))
    sNext)))
    (sRet (eC (.bl true))))))))))))
noncomputable abbrev G_law_is_great_right (c : Cf) : Fn := fnG 1 14 (dn_law_is_great_right c)
theorem ok_law_is_great_right {c : Cf} {mg : Str → Option Value} {base : Heap} {f : Addr} {fd : FuncData} (hW : Wf c.K c.C) (hB : Bt mg) (hG : Gc c mg) (h__law_great_sizes : Df c mg base "_law_great_sizes" 3 (G_law_great_sizes c)) (h__law_some_pairs : Df c mg base "_law_some_pairs" 3 (G_law_some_pairs c)) (h__law_tops : Df c mg base "_law_tops" 3 (G_law_tops c)) (h__law_woven : Df c mg base "_law_woven" 2 (G_law_woven c)) (h__law_bent_once : Df c mg base "_law_bent_once" 3 (G_law_bent_once c)) (h__law_rows : Df c mg base "_law_rows" 2 (G_law_rows c)) (h__law_any : Df c mg base "_law_any" 2 (G_law_any c)) (h__law_due : Df c mg base "_law_due" 3 (G_law_due c)) (hI : DfW c mg base 8) (hT : DfT c mg base "_law_told" 8 (toldX (G_odds c))) (F : FnP c.K "_law_is_great_right" s_law_is_great_right f fd) (hm : mg "_law_is_great_right" = some (.ref f)) : Df c mg base "_law_is_great_right" 10 (G_law_is_great_right c) := by
  refine ⟨f, fd, ["_law_hand_here"], F.ok sc_law_is_great_right (fun vs H Q E h => sp_len h) (fun cdv A outer s H vs Q E hr h => ?_), hm, F.kp, F.bindsN fun _ _ _ _ _ _ us hl => match us, hl with | [_], _ => rfl⟩
  suffices h2 : ∃ t, PSs (cxOf CX0 c.P c.w c.K mg base N_law_is_great_right "_law_is_great_right" (defScope s_law_is_great_right) f cdv A outer s H E).nox (defBody s_law_is_great_right) t ∧ SndS c (fun _ _ _ _ => False) t (dn_law_is_great_right c) by
    obtain ⟨t, h3, h4⟩ := h2
    exact ⟨t, PSs.nox h3, fn_body h4 (by decide) h⟩
  refine ⟨_, (pss_cons (ps_set (i := 2) sc_law_is_great_right.nd rfl (Or.inl rfl) (pe_df h__law_great_sizes (by exact ⟨⟨rfl, rfl, rfl⟩, rfl, rfl⟩) hr (by rfl) (pa_cons (pv 0) pa_nil))) (pss_cons (ps_set (i := 6) sc_law_is_great_right.nd rfl (Or.inr rfl) (pe_df h__law_some_pairs (by exact ⟨⟨rfl, rfl, rfl⟩, rfl, rfl⟩) hr (by rfl) (pa_cons (pv 0) (pa_cons (pv 2) pa_nil)))) (pss_cons (ps_asg (pe_df h__law_tops (by exact ⟨⟨rfl, rfl, rfl⟩, rfl, rfl⟩) hr (by rfl) (pa_cons (pv 0) (pa_cons (pv 2) (pa_cons (pv 6) pa_nil)))) (pg_tup rfl (pgs_cons (pg_name (i := 7) sc_law_is_great_right.nd rfl (Or.inl rfl)) (pgs_cons (pg_name (i := 8) sc_law_is_great_right.nd rfl (Or.inl rfl)) pgs_nil)))) (pss_cons (ps_set (i := 5) sc_law_is_great_right.nd rfl (Or.inr rfl) (pe_df h__law_bent_once (by exact ⟨⟨rfl, rfl, rfl⟩, rfl, rfl⟩) hr (by rfl) (pa_cons (pv 0) (pa_cons (pe_df h__law_woven (by exact ⟨⟨rfl, rfl, rfl⟩, rfl, rfl⟩) hr (by rfl) (pa_cons (pv 2) (pa_cons (pv 6) (pa_cons (pv 7) (pa_cons (pv 8) pa_nil))))) pa_nil)))) (pss_cons (ps_set (i := 10) sc_law_is_great_right.nd rfl (Or.inl rfl) (pe_whole hI (by exact ⟨⟨rfl, rfl, rfl⟩, rfl, rfl⟩) hG hr (by rfl) (pa_cons (pv 2) (pa_cons (pe_df h__law_rows (by exact ⟨⟨rfl, rfl, rfl⟩, rfl, rfl⟩) hr (by rfl) (pa_cons (pv 5) (pa_cons (pe_callB (cr_sumD (by exact ⟨rfl, rfl, rfl⟩) rfl) (by rfl) (by exact hB.sum) bb_sum (pa_cons (pe_lc (own := [("_law_key", 13)]) (g := (gName 13)) rfl sc_law_is_great_right.nd (pi_keysN (c := c) (pv 5)) (blkOk_by (N := N_law_is_great_right) (sc := defScope s_law_is_great_right) (by decide +kernel)) (fun _ _ _ _ _ => (pg_name (i := 13) sc_law_is_great_right.nd rfl (Or.inl rfl))) (fun _ _ _ _ _ => pts_nil) (fun _ _ _ _ _ => (pe_ixN (by exact ⟨rfl, rfl, rfl⟩) (by exact hu64 hr) (pv 5) (pv 13) (fun _ _ => rfl)))) pa_nil)) pa_nil))) pa_nil)))) (pss_cons (ps_set (i := 11) sc_law_is_great_right.nd rfl (Or.inl rfl) (pe_lst pa_nil)) (pss_cons (ps_for PassesOwn.never rfl (pi_list (pv 6)) (pg_name (i := 3) sc_law_is_great_right.nd rfl (Or.inr rfl)) (pss_one (ps_expr (pe_bm PySem.F.plainAttrs_list PySem.F.slot_list_extend PySem.F.type_list_extend mt_extend (pv 11) (pa_cons (pe_lc (own := [("_law_column", 4)]) (g := (gName 4)) rfl sc_law_is_great_right.nd (pi_range1 (by rfl) (by exact hB.range) (pa_cons (pe_callB (call_lenD (by exact ⟨rfl, rfl, rfl⟩)) (by rfl) (by exact hB.len) bb_len (pa_cons (pv 2) pa_nil)) pa_nil)) (blkOk_by (N := N_law_is_great_right) (sc := defScope s_law_is_great_right) (by decide +kernel)) (fun _ _ _ _ _ => (pg_name (i := 4) sc_law_is_great_right.nd rfl (Or.inl rfl))) (fun _ _ _ _ _ => pts_one (pt_cmpR (op_inDD (by exact ⟨rfl, rfl, rfl⟩) (by exact hu65 hr)) (pe_callTy (call_tupleD (by exact ⟨rfl, rfl, rfl⟩)) (by rfl) (by exact hB.tuple) bb_tuple (pa_cons (pe_callB (cr_sortedD (by exact ⟨rfl, rfl, rfl⟩) rfl (by exact hu64 hr)) (by rfl) (by exact hB.sorted) bb_sorted (pa_cons (pe_op (op_addD (by exact ⟨rfl, rfl, rfl⟩)) (pv 3) (pe_tup (pa_cons (pv 4) pa_nil))) pa_nil)) pa_nil)) (pv 6) (by rfl))) (fun _ _ _ _ _ => (pe_tup (pa_cons (pv 4) (pa_cons (pv 3) pa_nil))))) pa_nil))))) (pss_cons (ps_setLc (own := [("_law_pair", 12)]) (g := (gName 12)) (i := 1) rfl sc_law_is_great_right.nd rfl rfl (sw_true rfl rfl rfl (by decide +kernel)) (pi_list (pv 11)) (blkOk_by (N := N_law_is_great_right) (sc := defScope s_law_is_great_right) (by decide +kernel)) (fun _ _ _ _ _ => (pg_name (i := 12) sc_law_is_great_right.nd rfl (Or.inl rfl))) (fun _ _ _ _ _ => pts_one (pt_cmpR (op_notInDD (by exact ⟨rfl, rfl, rfl⟩) (by exact hu65 hr)) (pe_ix (ix_D (by exact ⟨rfl, rfl, rfl⟩)) (pv 12) pe_int (fun _ _ => rfl)) (pe_ix (ix_D (by exact ⟨rfl, rfl, rfl⟩)) (pv 12) pe_int (fun _ _ => rfl)) (by rfl))) (fun _ _ _ _ _ => (pv 12))) (pss_cons (ps_for PassesOwn.never rfl (pi_range1 (by rfl) (by exact hB.range) (pa_cons pe_int pa_nil)) (pg_name (i := 9) sc_law_is_great_right.nd rfl (Or.inl rfl)) (pss_cons (ps_asg (pe_df h__law_any (by exact ⟨⟨rfl, rfl, rfl⟩, rfl, rfl⟩) hr (by rfl) (pa_cons (pv 0) (pa_cons (pv 1) pa_nil))) (pg_tup rfl (pgs_cons (pg_name (i := 4) sc_law_is_great_right.nd rfl (Or.inl rfl)) (pgs_cons (pg_name (i := 3) sc_law_is_great_right.nd rfl (Or.inr rfl)) pgs_nil)))) (pss_one (ps_if (pt_cmpR (op_neU (by exact ⟨rfl, rfl, rfl⟩) (by exact hu80 hr)) (pe_dfT hT (by exact ⟨⟨rfl, rfl, rfl⟩, rfl, rfl⟩) hr (by rfl) (pa_cons (pv 10) (pa_cons (pv 4) (pa_cons (pv 3) pa_nil)))) (pe_df h__law_due (by exact ⟨⟨rfl, rfl, rfl⟩, rfl, rfl⟩) hr (by rfl) (pa_cons (pv 2) (pa_cons (pv 6) (pa_cons (pv 5) (pa_cons (pv 4) (pa_cons (pv 3) pa_nil)))))) (nomark _)) (pss_one (ps_ret pe_bl)) pss_nil)))) (pss_one (ps_ret pe_bl))))))))))), ?_⟩
  exact (ss_seq (ss_asg (i := 2) (snd_call (snd_cons snd_var snd_nil))) (ss_seq (ss_asg (i := 6) (snd_call (snd_cons snd_var (snd_cons snd_var snd_nil)))) (ss_seq (ss_asgG (snd_call (snd_cons snd_var (snd_cons snd_var (snd_cons snd_var snd_nil)))) sg_two) (ss_seq (ss_asg (i := 5) (snd_call (snd_cons snd_var (snd_cons (snd_call (snd_cons snd_var (snd_cons snd_var (snd_cons snd_var (snd_cons snd_var snd_nil))))) snd_nil)))) (ss_seq (ss_asg (i := 10) (snd_mk (snd_cons snd_var (snd_cons (snd_call (snd_cons snd_var (snd_cons (snd_fn (snd_cons (snd_comp (si_keysN snd_var) sg_name st_yes (snd_bin snd_var snd_var)) snd_nil)) snd_nil))) snd_nil)))) (ss_seq (ss_newL (i := 11)) (ss_seq (ss_for (si_list snd_var) sg_name (ss_ext (i := 11) (snd_comp (si_rng1 (snd_fn (snd_cons snd_var snd_nil))) sg_name (st_test (snd_bin (snd_fn (snd_cons (snd_fn (snd_cons (snd_bin snd_var (snd_tup (snd_cons snd_var snd_nil) (llen_cons llen_nil) (by decide))) snd_nil)) snd_nil)) snd_var)) (snd_tup (snd_cons snd_var (snd_cons snd_var snd_nil)) (llen_cons (llen_cons llen_nil)) (by decide))))) (ss_seq (ss_gh (gh_frz 11) (ss_asg (i := 1) (snd_comp (si_list snd_var) sg_name (st_test (snd_bin (snd_bin snd_var (snd_c fun _ => .int _)) (snd_bin snd_var (snd_c fun _ => .int _)))) snd_var))) (ss_seq (ss_for (si_rng1 (snd_c fun _ => .int _)) sg_name (ss_seq (ss_asgG (snd_call (snd_cons snd_var (snd_cons snd_var snd_nil))) sg_two) (ss_if (st_test (snd_bin (snd_callO (snd_cons snd_var (snd_cons snd_var (snd_cons snd_var snd_nil)))) (snd_call (snd_cons snd_var (snd_cons snd_var (snd_cons snd_var (snd_cons snd_var (snd_cons snd_var snd_nil)))))))) (ss_ret (snd_c fun _ => .bl _)) ss_next))) (ss_ret (snd_c fun _ => .bl _)))))))))))
end Dl
/-! _law_hand: the hand is made. -/
namespace Dl
open PySem PySem.Spec PyProof.Rows L2
def absI (i : Int) : Int := if i < 0 then -i else i
def hand0 (ha la : Addr) (ns : List Int) : HS := ⟨ha, la, ns.map absI, 0, 0, 40961 + (ns.length : Nat), 0⟩
def spHand (K : PySem.W.Frag) : Sp := fun vs H Q _ => ∃ (a : Addr) (ns : List Int), vs = [.ref a] ∧ SqL K H a (ns.map V.int) ∧ ns.length ≤ 63 ∧
  ∀ H' ha la, Ex H H' → H ha = none → H la = none → ha ≠ la → H' la = some (.lst ((ns.map absI).map V.int)) → H' ha = some (.dK (handK (hand0 ha la ns))) → Q (.ref ha) H'
abbrev s_hand : Stmt := top 48
abbrev N_hand : List Str := ["_law_script", "_law_cells", "_law_cell"]
theorem sc_hand : FnScope N_hand ["_law_script"] (defScope s_hand) := ⟨rfl, rfl, rfl, by decide +kernel, rfl, by decide +kernel, by decide +kernel⟩
def tHandC (K : PySem.W.Frag) : TE := tLc (iList K (tSl (rSlL K) (tVar 0) tNoPart (tPart (tC (.int 63))))) (gName 2) (fun _ H Q => Q true H) (tCB (fun xs H Q => ∃ i, xs = [.int i] ∧ Q (.int (if i < 0 then -i else i)) H) (tCons (tCB (fun xs H Q => (∃ i, xs = [.int i] ∧ Q (.int i) H) ∨ ∃ k, xs = [.bl k] ∧ Q (.int (if k then 1 else 0)) H) (tCons (tVar 2) tNil)) tNil)) [2]
theorem upd_upd {H : Hp} {p : Addr} {o u : HO} : upd (upd H p o) p u = upd H p u := funext fun b => by
  by_cases h : b = p
  · subst h; rw [upd_same, upd_same]
  · rw [upd_ne h, upd_ne h, upd_ne h]
theorem take_one {α : Type} : ∀ {l : List α} {i : Nat} {x : α}, l[i]? = some x → l.take (i + 1) = l.take i ++ [x]
  | [], _, _, h => by simp at h
  | _ :: _, 0, _, h => by simp at h; subst h; rfl
  | a :: l, i + 1, x, h => by
    have := take_one (l := l) (i := i) (x := x) (by simpa using h)
    simp [this]
theorem ok_law_hand {c : Cf} {mg : Str → Option Value} {base : Heap} {f : Addr} {fd : FuncData} (hB : Bt mg) (F : FnP c.K "_law_hand" s_hand f fd) : FnOk c.P c.w c.K mg base CX0 1 f fd ["_law_script"] (spHand c.K) := by
  refine F.ok sc_hand (fun vs H Q E ⟨a, ns, e, _⟩ => by rw [e]; rfl) (fun cdv A outer s H vs Q E hr h => ?_)
  suffices h2 : ∃ t, PSs (cxOf CX0 c.P c.w c.K mg base N_hand "_law_hand" (defScope s_hand) f cdv A outer s H E).nox (defBody s_hand) t ∧ t { nx := fun _ H' => Q .non H', rt := Q } (start N_hand vs) H by
    obtain ⟨t, h3, h4⟩ := h2
    exact ⟨t, PSs.nox h3, h4⟩
  refine ⟨_, pss_cons (ps_setLc (own := [("_law_cell", 2)]) (g := gName 2) (i := 1) rfl sc_hand.nd rfl rfl (sw_true rfl rfl rfl (by decide +kernel)) (pi_list (pe_slice sl_list (pv 0) po_none (po_some pe_int))) (blkOk_by (N := N_hand) (sc := defScope s_hand) (by decide +kernel)) (fun _ _ _ _ _ => pg_name (i := 2) sc_hand.nd rfl (Or.inl rfl)) (fun _ _ _ _ _ => pts_nil)
      (fun _ _ _ _ _ => pe_callB call_abs (by rfl) (by exact hB.abs) bb_abs (pa_cons (pe_callTy call_int1 (by rfl) (by exact hB.int) bb_int (pa_cons (pv 2) pa_nil)) pa_nil)))
    (pss_one (ps_ret (pe_disp (pps_cons pe_str (pv 1) (pps_cons pe_str pe_int (pps_cons pe_str pe_int (pps_cons pe_str (pe_op op_add pe_int (pe_callB call_len (by rfl) (by exact hB.len) bb_len (pa_cons (pv 1) pa_nil))) (pps_cons pe_str pe_int pps_nil))))) rfl rfl (by simp) (by decide)))), ?_⟩
  obtain ⟨a, ns, rfl, hs, hz, q⟩ := h
  have hcut : cutV (ns.map V.int) none (some 63) = ns.map V.int := by
    unfold cutV
    rw [show HT.sIx (ns.map V.int).length 0 none = 0 from rfl, show HT.sIx (ns.map V.int).length (ns.map V.int).length (some 63) = min 63 (ns.map V.int).length from HT.sIx_nat _ _ 63]
    rw [List.drop_zero, Nat.sub_zero]
    exact List.take_of_length_le (by rw [List.length_map]; omega)
  refine ⟨.ref a, rfl, 63, rfl, a, ns.map V.int, rfl, hs, fun p hp => ⟨p, rfl, ⟨_, .inl (.inl upd_same)⟩, fun L hL => ?_⟩⟩
  rw [hcut] at hL ⊢
  have e1 : Ex H (upd H p (.lst (ns.map V.int))) := Ex.new hp
  have nLp : p ≠ L := fun z => by rw [← z, upd_same] at hL; cases hL
  refine lc_list (K := c.K) (a := p) (xs := ns.map V.int) (fun i H' => H' = upd (upd H p (.lst (ns.map V.int))) L (.lst (((ns.take i).map absI).map V.int))) rfl (fun i H' _ e => ?_) (fun i x H' hx e => ?_) (fun H' e => ?_)
  · subst e
    exact .inl (.inl (by rw [upd_ne nLp]; exact upd_same))
  · subst e
    rw [List.getElem?_map] at hx
    obtain ⟨n, hn, rfl⟩ := Option.map_eq_some_iff.mp hx
    refine ⟨rfl, ?_⟩
    unfold tYes
    simp only [if_true]
    refine ⟨.int n, rfl, .inl ⟨n, rfl, n, rfl, _, upd_same, ?_, ?_⟩⟩
    · rw [List.length_map, List.length_map, List.length_take]
      have : (63 : Nat) < sizeLine := by decide
      omega
    · rw [upd_upd, take_one hn]
      simp [absI]
  · subst e
    rw [show (ns.map V.int).length = ns.length by simp, List.take_length]
    intro h2 hh2
    have e2 : Ex (upd H p (.lst (ns.map V.int))) (upd (upd H p (.lst (ns.map V.int))) L (.lst ((ns.map absI).map V.int))) := Ex.new hL
    have nLh : L ≠ h2 := fun z => by rw [← z, upd_same] at hh2; cases hh2
    refine ⟨.ref L, rfl, ⟨.ref L, rfl, .ref L, ((ns.map absI).map V.int).length, rfl, .inl ⟨_, .inl (.inl (by rw [upd_ne nLh]; exact upd_same)), rfl⟩, 40961, _, rfl, rfl, upd_same, [(.inr "cells", .ref L), (.inr "at", .int 0), (.inr "left", .int 0), (.inr "seed", .int (40961 + (ns.length : Nat))), (.inr "turn", .int 0)], ?_, (show 5 ≤ 15 by decide), ?_⟩⟩
    · simp [kV]
    · refine q _ h2 L ?_ ?_ ?_ (Ne.symm nLh) ?_ ?_
      · rw [upd_upd]
        exact (e1.trans e2).trans (Ex.new hh2)
      · exact (e1.trans e2).back hh2
      · exact e1.back hL
      · rw [upd_ne nLh, upd_ne nLh]; exact upd_same
      · rw [upd_same]
        rfl
end Dl
namespace Dl
open PySem PySem.Spec PyProof.Rows L2
abbrev s_law : Stmt := top 70
abbrev N_law : List Str := ["_law_script", "_law_hand_here", "_law_many", "_law_sizes_here", "_law_pattern", "_law_column", "_law_weights", "_law_family", "_law_tops_here", "_law_bottoms", "_law_turn", "_law_whole", "_law_rows_here", "_law_odd_columns", "_law_odd_patterns", "_law_columns", "_law_patterns_here", "_law_due_here", "_law_told_here", "_law_key"]
theorem sc_law : FnScope N_law ["_law_script"] (defScope s_law) := ⟨rfl, rfl, rfl, by decide +kernel, rfl, by decide +kernel, by decide +kernel⟩
noncomputable def dn_law (c : Cf) : SDn :=
    (sSeq (sIf (bOf (eBin dEqX (eCall (G_law_draw c) (lCons (eVar 1) (lCons (eC (.int 8)) lNil))) (eC (.int 5))))
    (sRet (eCall (G_law_is_great_right c) (lCons (eVar 1) lNil)))
    sNext)
    (sSeq (sFor (lRng1 (eC (.int 2))) (gd1 10)
    (sSeq (sAsg 3 (eCall (G_law_sizes c) (lCons (eVar 1) lNil)))
    (sSeq (sPar 2 7 (eFn dLen (lCons (eVar 3) lNil)) (eCall (G_law_any_family c) (lCons (eVar 1) (lCons (eFn dLen (lCons (eVar 3) lNil)) lNil))))
    (sSeq (sAsgG (eCall (G_law_tops c) (lCons (eVar 1) (lCons (eVar 3) (lCons (eVar 7) lNil)))) (gd2 8 9))
    (sSeq (sAsg 6 (eCall (G_law_woven c) (lCons (eVar 3) (lCons (eVar 7) (lCons (eVar 8) (lCons (eVar 9) lNil))))))
    (sSeq (sAsg 6 (eIf (bOf (eBin dEqX (eCall (G_law_draw c) (lCons (eVar 1) (lCons (eC (.int 4)) lNil))) (eC (.int 0)))) (eCall (G_law_bent c) (lCons (eVar 1) (lCons (eVar 6) lNil))) (eVar 6)))
    (sSeq (sAsg 12 (eCall (G_law_rows c) (lCons (eVar 6) (lCons (eFn dSum (lCons (eComp (lItemsK (eVar 6)) [19] (gd1 19) bYes (eBin dIxN (eVar 6) (eVar 19))) lNil)) lNil))))
    (sSeq (sAsg 11 (eMk c (lCons (eVar 3) (lCons (eVar 12) lNil))))
    (sSeq (sAsg 13 (eLst (lCons (eUn dNeg (eC (.int 1))) (lCons (eVar 2) (lCons (eC (.bl true)) (lCons (eC (.bl false)) (lCons (eC .non) (lCons (eC (.str "0")) (lCons (eTup (lCons (eC (.int 0)) lNil)) (lCons (eLst (lCons (eC (.int 0)) lNil)) (lCons (eC (.dic false [])) (lCons (eBin dPow (eC (.int 10)) (eC (.int 50))) (lCons (eVar 11) (lCons (eTup (lCons (eTup (lCons (eC (.int 0)) lNil)) (lCons (eTup lNil) lNil))) lNil))))))))))))))
    (sSeq (sAsg 14 (eLst (lCons (eC .non) (lCons (eC (.int 0)) (lCons (eLst lNil) (lCons (eLstRg (eVar 2)) (lCons (eTup (lCons (eC (.int 0)) (lCons (eC (.int 0)) lNil))) (lCons (eTup (lCons (eVar 2) lNil)) (lCons (eTup (lCons (eUn dNeg (eC (.int 1))) lNil)) (lCons (eTup (lCons (eC (.bl false)) lNil)) (lCons (eTup (lCons (eC (.bl true)) lNil)) (lCons (eTup (lCons (eC (.str "0")) lNil)) (lCons (eTup (lCons (eTup lNil) lNil)) (lCons (eC (.str "")) (lCons (eC (.dic false [])) (lCons (eVar 11) lNil))))))))))))))))
    (sSeq (sAsg 15 (eBin dAdd (eLstRg (eVar 2)) (eLst (lCons (eCall (G_law_any c) (lCons (eVar 1) (lCons (eVar 13) lNil))) lNil))))
    (sSeq (sAsg 16 (eBin dAdd (eCall (G_law_patterns c) (lCons (eVar 2) lNil)) (eLst (lCons (eCall (G_law_any c) (lCons (eVar 1) (lCons (eVar 14) lNil))) (lCons (eTup (lCons (eC (.int 1)) (lCons (eC (.int 0)) lNil))) lNil)))))
    (sSeq (sFor (lItemsL (eVar 15)) (gd1 5)
    (sFor (lItemsL (eVar 16)) (gd1 4)
    (sSeq (sAsg 17 (eCall (G_law_due c) (lCons (eVar 3) (lCons (eVar 7) (lCons (eVar 6) (lCons (eVar 5) (lCons (eVar 4) lNil)))))))
    (sSeq (sAsgX 18 (toldX (G_odds c)) (lCons (eVar 11) (lCons (eVar 5) (lCons (eVar 4) lNil))))
    (sSeq (sIf (bOr (bOf (ePeek 18 (eBin dNeU (eVar 18) (eVar 17)))) (bAnd (bOf (eBin dEqX (eBin dIx (eVar 17) (eC (.int 0))) (eC (.str "told")))) (bNot (bOf (ePeek 18 (eFn (dIsi c) (lCons (eBin dIx (eVar 18) (eC (.int 1))) (lCons (eC (.ty "dict")) lNil))))))))
    (sRet (eC (.bl false)))
    sNext)
    (sIf (bOf (eBin dEqX (eBin dIx (eVar 17) (eC (.int 0))) (eC (.str "told"))))
    (sSeq (sClr 18)
    (sIf (bOf (eBin dNeU (eCallO (toldX (G_odds c)) (lCons (eVar 11) (lCons (eVar 5) (lCons (eVar 4) lNil)))) (eVar 17)))
    (sRet (eC (.bl false)))
    sNext))
    sNext))))))
    (sIf (bOf (eNeW (G_eq c) (eVar 11) (eMk c (lCons (eVar 3) (lCons (eVar 12) lNil)))))
    (sRet (eC (.bl false)))
    sNext))))))))))))))
    (sRet (eC (.bl true)))))
abbrev E_law (ha : Addr) : Env := [.dead, .dat (.hand ha), .dead, .dead, .dead, .dead, .dead, .dead, .dead, .dead, .dead, .dead, .dead, .dead, .dead, .dead, .dead, .dead, .dead, .dead]
structure DfH (c : Cf) (mg : Str → Option Value) (base : Heap) : Prop where
  ex : ∃ f fd ps, FnOk c.P c.w c.K mg base CX0 1 f fd ps (spHand c.K) ∧ mg "_law_hand" = some (.ref f) ∧ PySem.W.keepIn c.K (.ref f) = true ∧ Binds c.K fd ps []
def spLaw (c : Cf) : Sp := fun vs H Q _ => ∃ (a : Addr) (ns : List Int), vs = [.ref a] ∧ SqL c.K H a (ns.map V.int) ∧ ns.length ≤ 63 ∧ LamX.Tabs c.T H ∧ (∀ ha la, ∃ hs', dn_law c (E_law ha) (hand0 ha la ns) = some (.ret (.bl true), hs')) ∧ ∀ H', Q (.bl true) H'
theorem law_start {c : Cf} {t : TS} {vs : List V} {H : Hp} {Q : VK} {E : XK} (ht : SndS c (fun _ _ _ _ => False) t (dn_law c)) (h : spLaw c vs H Q E) : tSeq (tAsg (tCall (spHand c.K) [] E0 (tCons (tVar 0) tNil)) (gName 1)) t { nx := fun _ H' => Q .non H', rt := Q } (start N_law vs) H := by
  obtain ⟨a, ns, rfl, hs, hz, tb, hd, q⟩ := h
  refine ⟨.ref a, rfl, a, ns, rfl, hs, hz, fun H1 ha la ex nha nla nhl h1 h2 => ?_⟩
  obtain ⟨hs', e⟩ := hd ha la
  have hFl : (fun b => if b = la then some (HO.lst ((ns.map absI).map V.int)) else none : Hp) la = some (HO.lst ((ns.map absI).map V.int)) := if_pos rfl
  have hFn : ∀ b, b ≠ la → (fun b => if b = la then some (HO.lst ((ns.map absI).map V.int)) else none : Hp) b = none := fun b hb => if_neg hb
  generalize (fun b => if b = la then some (HO.lst ((ns.map absI).map V.int)) else none : Hp) = F at hFl hFn
  have sub : Ex F H1 := fun b o w => by
    by_cases hb : b = la
    · subst hb; rw [hFl] at w; cases w; exact h1
    · rw [hFn b hb] at w; cases w
  have noOwn : ∀ i, ¬ isOwn (E_law ha) i := fun i ⟨x, w⟩ => by
    have : ∀ s ∈ E_law ha, s = .dead ∨ s = .dat (.hand ha) := by simp [E_law]
    rcases this _ (List.mem_of_getElem? w) with z | z <;> cases z
  have d : DSF c ⟨F, H1, []⟩ (hand0 ha la ns) (E_law ha) [] [some (.ref a), some (.ref ha), none, none, none, none, none, none, none, none, none, none, none, none, none, none, none, none, none, none] H1 F (fun _ => 0) := by
    refine ⟨sub, fun b ps w => ?_, Ex.refl F, fun b w1 w2 => absurd w2 w1, Kp.refl H1, hFn ha nhl, ⟨h2, .lst hFl (FDs.ints _)⟩, tb.ext ex, rfl, fun i s w => ?_, fun i j w => absurd w (noOwn i), fun p hp => by simp at hp, fun p hp => by simp at hp, List.nodup_nil⟩
    · by_cases hb : b = la
      · subst hb; rw [hFl] at w; cases w
      · rw [hFn b hb] at w; cases w
    · by_cases hi : i = 1
      · subst hi
        cases w
        exact ⟨.ref ha, rfl, .hand ha⟩
      · have hs2 : s = .dead := by
          have hd2 : ((E_law ha).set 1 .dead)[i]? = some s := by rw [List.getElem?_set_ne (Ne.symm hi)]; exact w
          have : ∀ s ∈ (E_law ha).set 1 .dead, s = .dead := by simp [E_law]
          exact this _ (List.mem_of_getElem? hd2)
        subst hs2
        trivial
  exact ht ⟨F, H1, []⟩ _ _ [] _ H1 ⟨F, _, d⟩ _ _ e _ fun _ v H2 d2 => by
    obtain ⟨F2, ow2, d2⟩ := d2
    have := d2.tmp (.bl true, v) (by simp)
    cases this
    exact q H2
theorem ok_law {c : Cf} {mg : Str → Option Value} {base : Heap} {f : Addr} {fd : FuncData} (hW : Wf c.K c.C) (hB : Bt mg) (hG : Gc c mg) (h__law_draw : Df c mg base "_law_draw" 1 (G_law_draw c)) (h__law_is_great_right : Df c mg base "_law_is_great_right" 10 (G_law_is_great_right c)) (h__law_sizes : Df c mg base "_law_sizes" 3 (G_law_sizes c)) (h__law_any_family : Df c mg base "_law_any_family" 3 (G_law_any_family c)) (h__law_tops : Df c mg base "_law_tops" 3 (G_law_tops c)) (h__law_woven : Df c mg base "_law_woven" 2 (G_law_woven c)) (h__law_bent : Df c mg base "_law_bent" 3 (G_law_bent c)) (h__law_rows : Df c mg base "_law_rows" 2 (G_law_rows c)) (h__law_any : Df c mg base "_law_any" 2 (G_law_any c)) (h__law_patterns : Df c mg base "_law_patterns" 1 (G_law_patterns c)) (h__law_due : Df c mg base "_law_due" 3 (G_law_due c)) (hI : DfW c mg base 8) (hT : DfT c mg base "_law_told" 8 (toldX (G_odds c))) (hQ : DfE c mg base 1) (hH : DfH c mg base) (F : FnP c.K "law" s_law f fd) : FnOk c.P c.w c.K mg base CX0 12 f fd ["_law_script"] (spLaw c) := by
  refine F.ok sc_law (fun vs H Q E ⟨a, ns, e, _⟩ => by rw [e]; rfl) (fun cdv A outer s H vs Q E hr h => ?_)
  suffices h2 : ∃ t, PSs (cxOf CX0 c.P c.w c.K mg base N_law "law" (defScope s_law) f cdv A outer s H E).nox ((defBody s_law).drop 1) t ∧ SndS c (fun _ _ _ _ => False) t (dn_law c) by
    obtain ⟨t, h3, h4⟩ := h2
    obtain ⟨fH, fdH, psH, FH, hmH, hkH, hbH⟩ := hH.ex
    refine ⟨_, PSs.nox (pss_cons (ps_set (i := 1) sc_law.nd rfl (Or.inl rfl) (pe_call FH (hr.mono (by decide)) (by rfl) hmH hkH hbH .nil pass0 (pa_cons (pv 0) pa_nil))) h3), ?_⟩
    exact law_start h4 h
  refine ⟨_, (pss_cons (ps_if (pt_cmpR (op_eqX (by exact ⟨rfl, rfl, rfl⟩) (by exact hu64 hr)) (pe_df h__law_draw (by exact ⟨⟨rfl, rfl, rfl⟩, rfl, rfl⟩) hr (by rfl) (pa_cons (pv 1) (pa_cons pe_int pa_nil))) pe_int (nomark _)) (pss_one (ps_ret (pe_df h__law_is_great_right (by exact ⟨⟨rfl, rfl, rfl⟩, rfl, rfl⟩) hr (by rfl) (pa_cons (pv 1) pa_nil)))) pss_nil) (pss_cons (ps_for PassesOwn.never rfl (pi_range1 (by rfl) (by exact hB.range) (pa_cons pe_int pa_nil)) (pg_name (i := 10) sc_law.nd rfl (Or.inl rfl)) (pss_cons (ps_set (i := 3) sc_law.nd rfl (Or.inl rfl) (pe_df h__law_sizes (by exact ⟨⟨rfl, rfl, rfl⟩, rfl, rfl⟩) hr (by rfl) (pa_cons (pv 1) pa_nil))) (pss_cons (ps_par (i := 2) (j := 7) rfl sc_law.nd rfl rfl (by decide) rfl rfl (pa_cons (pe_callB (call_lenD (by exact ⟨rfl, rfl, rfl⟩)) (by rfl) (by exact hB.len) bb_len (pa_cons (pv 3) pa_nil)) (pa_cons (pe_df h__law_any_family (by exact ⟨⟨rfl, rfl, rfl⟩, rfl, rfl⟩) hr (by rfl) (pa_cons (pv 1) (pa_cons (pe_callB (call_lenD (by exact ⟨rfl, rfl, rfl⟩)) (by rfl) (by exact hB.len) bb_len (pa_cons (pv 3) pa_nil)) pa_nil))) pa_nil)) rfl) (pss_cons (ps_asg (pe_df h__law_tops (by exact ⟨⟨rfl, rfl, rfl⟩, rfl, rfl⟩) hr (by rfl) (pa_cons (pv 1) (pa_cons (pv 3) (pa_cons (pv 7) pa_nil)))) (pg_tup rfl (pgs_cons (pg_name (i := 8) sc_law.nd rfl (Or.inl rfl)) (pgs_cons (pg_name (i := 9) sc_law.nd rfl (Or.inl rfl)) pgs_nil)))) (pss_cons (ps_set (i := 6) sc_law.nd rfl (Or.inr rfl) (pe_df h__law_woven (by exact ⟨⟨rfl, rfl, rfl⟩, rfl, rfl⟩) hr (by rfl) (pa_cons (pv 3) (pa_cons (pv 7) (pa_cons (pv 8) (pa_cons (pv 9) pa_nil)))))) (pss_cons (ps_set (i := 6) sc_law.nd rfl (Or.inr rfl) (pe_ifExp (pt_cmpR (op_eqX (by exact ⟨rfl, rfl, rfl⟩) (by exact hu64 hr)) (pe_df h__law_draw (by exact ⟨⟨rfl, rfl, rfl⟩, rfl, rfl⟩) hr (by rfl) (pa_cons (pv 1) (pa_cons pe_int pa_nil))) pe_int (nomark _)) (pe_df h__law_bent (by exact ⟨⟨rfl, rfl, rfl⟩, rfl, rfl⟩) hr (by rfl) (pa_cons (pv 1) (pa_cons (pv 6) pa_nil))) (pv 6))) (pss_cons (ps_set (i := 12) sc_law.nd rfl (Or.inl rfl) (pe_df h__law_rows (by exact ⟨⟨rfl, rfl, rfl⟩, rfl, rfl⟩) hr (by rfl) (pa_cons (pv 6) (pa_cons (pe_callB (cr_sumD (by exact ⟨rfl, rfl, rfl⟩) rfl) (by rfl) (by exact hB.sum) bb_sum (pa_cons (pe_lc (own := [("_law_key", 19)]) (g := (gName 19)) rfl sc_law.nd (pi_keysN (c := c) (pv 6)) (blkOk_by (N := N_law) (sc := defScope s_law) (by decide +kernel)) (fun _ _ _ _ _ => (pg_name (i := 19) sc_law.nd rfl (Or.inl rfl))) (fun _ _ _ _ _ => pts_nil) (fun _ _ _ _ _ => (pe_ixN (by exact ⟨rfl, rfl, rfl⟩) (by exact hu64 hr) (pv 6) (pv 19) (fun _ _ => rfl)))) pa_nil)) pa_nil)))) (pss_cons (ps_set (i := 11) sc_law.nd rfl (Or.inl rfl) (pe_whole hI (by exact ⟨⟨rfl, rfl, rfl⟩, rfl, rfl⟩) hG hr (by rfl) (pa_cons (pv 3) (pa_cons (pv 12) pa_nil)))) (pss_cons (ps_set (i := 13) sc_law.nd rfl (Or.inl rfl) (pe_lst (pa_cons (pe_un (un_negD (c := c)) pe_int) (pa_cons (pv 2) (pa_cons pe_bl (pa_cons pe_bl (pa_cons pe_non (pa_cons pe_str (pa_cons (pe_tup (pa_cons pe_int pa_nil)) (pa_cons (pe_lst (pa_cons pe_int pa_nil)) (pa_cons (pe_newN (by exact ⟨rfl, rfl, rfl⟩)) (pa_cons (pe_op (op_powD (c := c)) pe_int pe_int) (pa_cons (pv 11) (pa_cons (pe_tup (pa_cons (pe_tup (pa_cons pe_int pa_nil)) (pa_cons (pe_tup pa_nil) pa_nil))) pa_nil)))))))))))))) (pss_cons (ps_set (i := 14) sc_law.nd rfl (Or.inl rfl) (pe_lst (pa_cons pe_non (pa_cons pe_int (pa_cons (pe_lst pa_nil) (pa_cons (pe_listRg rfl (by rfl) (by exact hB.list) (prg_1 (by rfl) (by exact hB.range) (pv 2))) (pa_cons (pe_tup (pa_cons pe_int (pa_cons pe_int pa_nil))) (pa_cons (pe_tup (pa_cons (pv 2) pa_nil)) (pa_cons (pe_tup (pa_cons (pe_un (un_negD (c := c)) pe_int) pa_nil)) (pa_cons (pe_tup (pa_cons pe_bl pa_nil)) (pa_cons (pe_tup (pa_cons pe_bl pa_nil)) (pa_cons (pe_tup (pa_cons pe_str pa_nil)) (pa_cons (pe_tup (pa_cons (pe_tup pa_nil) pa_nil)) (pa_cons pe_str (pa_cons (pe_newN (by exact ⟨rfl, rfl, rfl⟩)) (pa_cons (pv 11) pa_nil)))))))))))))))) (pss_cons (ps_set (i := 15) sc_law.nd rfl (Or.inl rfl) (pe_op (op_addD (by exact ⟨rfl, rfl, rfl⟩)) (pe_listRg rfl (by rfl) (by exact hB.list) (prg_1 (by rfl) (by exact hB.range) (pv 2))) (pe_lst (pa_cons (pe_df h__law_any (by exact ⟨⟨rfl, rfl, rfl⟩, rfl, rfl⟩) hr (by rfl) (pa_cons (pv 1) (pa_cons (pv 13) pa_nil))) pa_nil)))) (pss_cons (ps_set (i := 16) sc_law.nd rfl (Or.inl rfl) (pe_op (op_addD (by exact ⟨rfl, rfl, rfl⟩)) (pe_df h__law_patterns (by exact ⟨⟨rfl, rfl, rfl⟩, rfl, rfl⟩) hr (by rfl) (pa_cons (pv 2) pa_nil)) (pe_lst (pa_cons (pe_df h__law_any (by exact ⟨⟨rfl, rfl, rfl⟩, rfl, rfl⟩) hr (by rfl) (pa_cons (pv 1) (pa_cons (pv 14) pa_nil))) (pa_cons (pe_tup (pa_cons pe_int (pa_cons pe_int pa_nil))) pa_nil))))) (pss_cons (ps_for PassesOwn.never rfl (pi_list (pv 15)) (pg_name (i := 5) sc_law.nd rfl (Or.inl rfl)) (pss_one (ps_for PassesOwn.never rfl (pi_list (pv 16)) (pg_name (i := 4) sc_law.nd rfl (Or.inl rfl)) (pss_cons (ps_set (i := 17) sc_law.nd rfl (Or.inl rfl) (pe_df h__law_due (by exact ⟨⟨rfl, rfl, rfl⟩, rfl, rfl⟩) hr (by rfl) (pa_cons (pv 3) (pa_cons (pv 7) (pa_cons (pv 6) (pa_cons (pv 5) (pa_cons (pv 4) pa_nil))))))) (pss_cons (ps_set (i := 18) sc_law.nd rfl (Or.inl rfl) (pe_dfT hT (by exact ⟨⟨rfl, rfl, rfl⟩, rfl, rfl⟩) hr (by rfl) (pa_cons (pv 11) (pa_cons (pv 5) (pa_cons (pv 4) pa_nil))))) (pss_cons (ps_if ((pw_or (pt_cmpR (op_neU (by exact ⟨rfl, rfl, rfl⟩) (by exact hu80 hr)) (pv 18) (pv 17) (nomark _)) (pw_or1 ((pw_and (pt_cmpR (op_eqX (by exact ⟨rfl, rfl, rfl⟩) (by exact hu64 hr)) (pe_ix (ix_D (by exact ⟨rfl, rfl, rfl⟩)) (pv 17) pe_int (fun _ _ => rfl)) pe_str (nomark _)) (pw_and1 (pt_not (pt_val (pe_callB (call_isiD (by exact ⟨rfl, rfl, rfl⟩) hW) (by rfl) (by exact hB.isinstance) bb_isinstance (pa_cons (pe_ix (ix_D (by exact ⟨rfl, rfl, rfl⟩)) (pv 18) pe_int (fun _ _ => rfl)) (pa_cons (pe_ty (by exact hB.dict) bb_dict (by rfl)) pa_nil)))))))).pt))).pt (pss_one (ps_ret pe_bl)) pss_nil) (pss_one (ps_if (pt_cmpR (op_eqX (by exact ⟨rfl, rfl, rfl⟩) (by exact hu64 hr)) (pe_ix (ix_D (by exact ⟨rfl, rfl, rfl⟩)) (pv 17) pe_int (fun _ _ => rfl)) pe_str (nomark _)) (pss_cons (ps_expr (pe_clN (by exact ⟨rfl, rfl, rfl⟩) (pe_ix ix_tup (pv 18) pe_int (fun _ _ => rfl)))) (pss_one (ps_if (pt_cmpR (op_neU (by exact ⟨rfl, rfl, rfl⟩) (by exact hu80 hr)) (pe_dfT hT (by exact ⟨⟨rfl, rfl, rfl⟩, rfl, rfl⟩) hr (by rfl) (pa_cons (pv 11) (pa_cons (pv 5) (pa_cons (pv 4) pa_nil)))) (pv 17) (nomark _)) (pss_one (ps_ret pe_bl)) pss_nil))) pss_nil)))))))) (pss_one (ps_if (pt_cmpR (op_neE hQ (by exact ⟨⟨rfl, rfl, rfl⟩, rfl, rfl⟩) hr) (pv 11) (pe_whole hI (by exact ⟨⟨rfl, rfl, rfl⟩, rfl, rfl⟩) hG hr (by rfl) (pa_cons (pv 3) (pa_cons (pv 12) pa_nil))) (nomark _)) (pss_one (ps_ret pe_bl)) pss_nil))))))))))))))) (pss_one (ps_ret pe_bl)))), ?_⟩
  exact (ss_seq (ss_if (st_test (snd_bin (snd_call (snd_cons snd_var (snd_cons (snd_c fun _ => .int _) snd_nil))) (snd_c fun _ => .int _))) (ss_ret (snd_call (snd_cons snd_var snd_nil))) ss_next) (ss_seq (ss_for (si_rng1 (snd_c fun _ => .int _)) sg_name (ss_seq (ss_asg (i := 3) (snd_call (snd_cons snd_var snd_nil))) (ss_seq (ss_par (i := 2) (j := 7) (snd_fn (snd_cons snd_var snd_nil)) (snd_call (snd_cons snd_var (snd_cons (snd_fn (snd_cons snd_var snd_nil)) snd_nil)))) (ss_seq (ss_asgG (snd_call (snd_cons snd_var (snd_cons snd_var (snd_cons snd_var snd_nil)))) sg_two) (ss_seq (ss_asg (i := 6) (snd_call (snd_cons snd_var (snd_cons snd_var (snd_cons snd_var (snd_cons snd_var snd_nil)))))) (ss_seq (ss_asg (i := 6) (snd_if (st_test (snd_bin (snd_call (snd_cons snd_var (snd_cons (snd_c fun _ => .int _) snd_nil))) (snd_c fun _ => .int _))) (snd_call (snd_cons snd_var (snd_cons snd_var snd_nil))) snd_var)) (ss_seq (ss_asg (i := 12) (snd_call (snd_cons snd_var (snd_cons (snd_fn (snd_cons (snd_comp (si_keysN snd_var) sg_name st_yes (snd_bin snd_var snd_var)) snd_nil)) snd_nil)))) (ss_seq (ss_asg (i := 11) (snd_mk (snd_cons snd_var (snd_cons snd_var snd_nil)))) (ss_seq (ss_asg (i := 13) (snd_lst (snd_cons (snd_un (snd_c fun _ => .int _)) (snd_cons snd_var (snd_cons (snd_c fun _ => .bl _) (snd_cons (snd_c fun _ => .bl _) (snd_cons (snd_c fun _ => .non) (snd_cons (snd_c fun _ => .str _) (snd_cons (snd_tup (snd_cons (snd_c fun _ => .int _) snd_nil) (llen_cons llen_nil) (by decide)) (snd_cons (snd_lst (snd_cons (snd_c fun _ => .int _) snd_nil) (llen_cons llen_nil) (by decide)) (snd_cons snd_newN (snd_cons (snd_bin (snd_c fun _ => .int _) (snd_c fun _ => .int _)) (snd_cons snd_var (snd_cons (snd_tup (snd_cons (snd_tup (snd_cons (snd_c fun _ => .int _) snd_nil) (llen_cons llen_nil) (by decide)) (snd_cons (snd_tup snd_nil llen_nil (by decide)) snd_nil)) (llen_cons (llen_cons llen_nil)) (by decide)) snd_nil)))))))))))) (llen_cons (llen_cons (llen_cons (llen_cons (llen_cons (llen_cons (llen_cons (llen_cons (llen_cons (llen_cons (llen_cons (llen_cons llen_nil)))))))))))) (by decide))) (ss_seq (ss_asg (i := 14) (snd_lst (snd_cons (snd_c fun _ => .non) (snd_cons (snd_c fun _ => .int _) (snd_cons (snd_lst snd_nil llen_nil (by decide)) (snd_cons (snd_lstRg snd_var) (snd_cons (snd_tup (snd_cons (snd_c fun _ => .int _) (snd_cons (snd_c fun _ => .int _) snd_nil)) (llen_cons (llen_cons llen_nil)) (by decide)) (snd_cons (snd_tup (snd_cons snd_var snd_nil) (llen_cons llen_nil) (by decide)) (snd_cons (snd_tup (snd_cons (snd_un (snd_c fun _ => .int _)) snd_nil) (llen_cons llen_nil) (by decide)) (snd_cons (snd_tup (snd_cons (snd_c fun _ => .bl _) snd_nil) (llen_cons llen_nil) (by decide)) (snd_cons (snd_tup (snd_cons (snd_c fun _ => .bl _) snd_nil) (llen_cons llen_nil) (by decide)) (snd_cons (snd_tup (snd_cons (snd_c fun _ => .str _) snd_nil) (llen_cons llen_nil) (by decide)) (snd_cons (snd_tup (snd_cons (snd_tup snd_nil llen_nil (by decide)) snd_nil) (llen_cons llen_nil) (by decide)) (snd_cons (snd_c fun _ => .str _) (snd_cons snd_newN (snd_cons snd_var snd_nil)))))))))))))) (llen_cons (llen_cons (llen_cons (llen_cons (llen_cons (llen_cons (llen_cons (llen_cons (llen_cons (llen_cons (llen_cons (llen_cons (llen_cons (llen_cons llen_nil)))))))))))))) (by decide))) (ss_seq (ss_asg (i := 15) (snd_bin (snd_lstRg snd_var) (snd_lst (snd_cons (snd_call (snd_cons snd_var (snd_cons snd_var snd_nil))) snd_nil) (llen_cons llen_nil) (by decide)))) (ss_seq (ss_asg (i := 16) (snd_bin (snd_call (snd_cons snd_var snd_nil)) (snd_lst (snd_cons (snd_call (snd_cons snd_var (snd_cons snd_var snd_nil))) (snd_cons (snd_tup (snd_cons (snd_c fun _ => .int _) (snd_cons (snd_c fun _ => .int _) snd_nil)) (llen_cons (llen_cons llen_nil)) (by decide)) snd_nil)) (llen_cons (llen_cons llen_nil)) (by decide)))) (ss_seq (ss_for (si_list snd_var) sg_name (ss_for (si_list snd_var) sg_name (ss_seq (ss_asg (i := 17) (snd_call (snd_cons snd_var (snd_cons snd_var (snd_cons snd_var (snd_cons snd_var (snd_cons snd_var snd_nil))))))) (ss_seq (ss_asgX (i := 18) (snd_cons snd_var (snd_cons snd_var (snd_cons snd_var snd_nil)))) (ss_seq (ss_if (st_or (st_test (st_peek (i := 18) (snd_bin snd_var snd_var))) (st_and (st_test (snd_bin (snd_bin snd_var (snd_c fun _ => .int _)) (snd_c fun _ => .str _))) (st_not (st_val (st_peek (i := 18) (snd_fn (snd_cons (snd_bin snd_var (snd_c fun _ => .int _)) (snd_cons (snd_c fun _ => .ty _) snd_nil)))))))) (ss_ret (snd_c fun _ => .bl _)) ss_next) (ss_if (st_test (snd_bin (snd_bin snd_var (snd_c fun _ => .int _)) (snd_c fun _ => .str _))) (ss_seq (ss_clr (i := 18)) (ss_if (st_test (snd_bin (snd_callO (snd_cons snd_var (snd_cons snd_var (snd_cons snd_var snd_nil)))) snd_var)) (ss_ret (snd_c fun _ => .bl _)) ss_next)) ss_next)))))) (ss_if (st_test (snd_neW snd_var (snd_mk (snd_cons snd_var (snd_cons snd_var snd_nil))))) (ss_ret (snd_c fun _ => .bl _)) ss_next)))))))))))))) (ss_ret (snd_c fun _ => .bl _))))
end Dl
set_option maxHeartbeats 0
namespace Dl
open PySem PySem.Spec PyProof.Rows L2
def d_is_integer : He.DefD := ⟨("is_integer", none), "is_integer", "is_integer", defArgs s_is_integer, defBody s_is_integer, defScope s_is_integer, [], []⟩
def d_is_within : He.DefD := ⟨("is_within", none), "is_within", "is_within", defArgs s_is_within, defBody s_is_within, defScope s_is_within, [], []⟩
def d_is_lot : He.DefD := ⟨("is_lot", none), "is_lot", "is_lot", defArgs s_is_lot, defBody s_is_lot, defScope s_is_lot, [], []⟩
def d_is_pair : He.DefD := ⟨("is_pair", none), "is_pair", "is_pair", defArgs s_is_pair, defBody s_is_pair, defScope s_is_pair, [], []⟩
def d_divisor : He.DefD := ⟨("divisor", none), "divisor", "divisor", defArgs s_divisor, defBody s_divisor, defScope s_divisor, [], []⟩
def d_lowest : He.DefD := ⟨("lowest", none), "lowest", "lowest", defArgs s_lowest, defBody s_lowest, defScope s_lowest, [], []⟩
def d_is_fraction : He.DefD := ⟨("is_fraction", none), "is_fraction", "is_fraction", defArgs s_is_fraction, defBody s_is_fraction, defScope s_is_fraction, [], []⟩
def d_plus : He.DefD := ⟨("plus", none), "plus", "plus", defArgs s_plus, defBody s_plus, defScope s_plus, [], []⟩
def d_over : He.DefD := ⟨("over", none), "over", "over", defArgs s_over, defBody s_over, defScope s_over, [], []⟩
def d_add_all : He.DefD := ⟨("add_all", none), "add_all", "add_all", defArgs s_add_all, defBody s_add_all, defScope s_add_all, [], []⟩
def d_is_sizes : He.DefD := ⟨("is_sizes", none), "is_sizes", "is_sizes", defArgs s_is_sizes, defBody s_is_sizes, defScope s_is_sizes, [], []⟩
def d_is_content : He.DefD := ⟨("is_content", none), "is_content", "is_content", defArgs s_is_content, defBody s_is_content, defScope s_is_content, [], []⟩
def d_tuples_of : He.DefD := ⟨("tuples_of", none), "tuples_of", "tuples_of", defArgs s_tuples_of, defBody s_tuples_of, defScope s_tuples_of, [], []⟩
def d_contents_of : He.DefD := ⟨("contents_of", none), "contents_of", "contents_of", defArgs s_contents_of, defBody s_contents_of, defScope s_contents_of, [], []⟩
def d_pattern_of : He.DefD := ⟨("pattern_of", none), "pattern_of", "pattern_of", defArgs s_pattern_of, defBody s_pattern_of, defScope s_pattern_of, [], []⟩
def d_is_place : He.DefD := ⟨("is_place", none), "is_place", "is_place", defArgs s_is_place, defBody s_is_place, defScope s_is_place, [], []⟩
def d_uneven_pattern : He.DefD := ⟨("uneven_pattern", none), "uneven_pattern", "uneven_pattern", defArgs s_uneven_pattern, defBody s_uneven_pattern, defScope s_uneven_pattern, [], []⟩
def d_shares_of : He.DefD := ⟨("shares_of", none), "shares_of", "shares_of", defArgs s_shares_of, defBody s_shares_of, defScope s_shares_of, [], []⟩
def d_pattern_at : He.DefD := ⟨("pattern_at", none), "pattern_at", "pattern_at", defArgs s_pattern_at, defBody s_pattern_at, defScope s_pattern_at, [], []⟩
def d_family : He.DefD := ⟨("family", none), "family", "family", defArgs s_family, defBody s_family, defScope s_family, [], []⟩
def d_first_wrong : He.DefD := ⟨("first_wrong", none), "first_wrong", "first_wrong", defArgs s_first_wrong, defBody s_first_wrong, defScope s_first_wrong, [], []⟩
def d_first_bad : He.DefD := ⟨("first_bad", none), "first_bad", "first_bad", defArgs s_first_bad, defBody s_first_bad, defScope s_first_bad, [], []⟩
def d_pairs_of : He.DefD := ⟨("pairs_of", none), "pairs_of", "pairs_of", defArgs s_pairs_of, defBody s_pairs_of, defScope s_pairs_of, [], []⟩
def d_quotients_along : He.DefD := ⟨("quotients_along", none), "quotients_along", "quotients_along", defArgs s_quotients_along, defBody s_quotients_along, defScope s_quotients_along, [], []⟩
def d_without : He.DefD := ⟨("without", none), "without", "without", defArgs s_without, defBody s_without, defScope s_without, [], []⟩
def d_first_uncalm : He.DefD := ⟨("first_uncalm", none), "first_uncalm", "first_uncalm", defArgs s_first_uncalm, defBody s_first_uncalm, defScope s_first_uncalm, [], []⟩
def d__law_draw : He.DefD := ⟨("_law_draw", none), "_law_draw", "_law_draw", defArgs s_law_draw, defBody s_law_draw, defScope s_law_draw, [], []⟩
def d__law_any : He.DefD := ⟨("_law_any", none), "_law_any", "_law_any", defArgs s_law_any, defBody s_law_any, defScope s_law_any, [], []⟩
def d__law_low : He.DefD := ⟨("_law_low", none), "_law_low", "_law_low", defArgs s_law_low, defBody s_law_low, defScope s_law_low, [], []⟩
def d__law_sizes : He.DefD := ⟨("_law_sizes", none), "_law_sizes", "_law_sizes", defArgs s_law_sizes, defBody s_law_sizes, defScope s_law_sizes, [], []⟩
def d__law_contents : He.DefD := ⟨("_law_contents", none), "_law_contents", "_law_contents", defArgs s_law_contents, defBody s_law_contents, defScope s_law_contents, [], []⟩
def d__law_patterns : He.DefD := ⟨("_law_patterns", none), "_law_patterns", "_law_patterns", defArgs s_law_patterns, defBody s_law_patterns, defScope s_law_patterns, [], []⟩
def d__law_view : He.DefD := ⟨("_law_view", none), "_law_view", "_law_view", defArgs s_law_view, defBody s_law_view, defScope s_law_view, [], []⟩
def d__law_has_all : He.DefD := ⟨("_law_has_all", none), "_law_has_all", "_law_has_all", defArgs s_law_has_all, defBody s_law_has_all, defScope s_law_has_all, [], []⟩
def d__law_rows : He.DefD := ⟨("_law_rows", none), "_law_rows", "_law_rows", defArgs s_law_rows, defBody s_law_rows, defScope s_law_rows, [], []⟩
def d__law_tops : He.DefD := ⟨("_law_tops", none), "_law_tops", "_law_tops", defArgs s_law_tops, defBody s_law_tops, defScope s_law_tops, [], []⟩
def d__law_woven : He.DefD := ⟨("_law_woven", none), "_law_woven", "_law_woven", defArgs s_law_woven, defBody s_law_woven, defScope s_law_woven, [], []⟩
def d__law_uncalm : He.DefD := ⟨("_law_uncalm", none), "_law_uncalm", "_law_uncalm", defArgs s_law_uncalm, defBody s_law_uncalm, defScope s_law_uncalm, [], []⟩
def d__law_bent : He.DefD := ⟨("_law_bent", none), "_law_bent", "_law_bent", defArgs s_law_bent, defBody s_law_bent, defScope s_law_bent, [], []⟩
def d__law_great_sizes : He.DefD := ⟨("_law_great_sizes", none), "_law_great_sizes", "_law_great_sizes", defArgs s_law_great_sizes, defBody s_law_great_sizes, defScope s_law_great_sizes, [], []⟩
def d__law_some_pairs : He.DefD := ⟨("_law_some_pairs", none), "_law_some_pairs", "_law_some_pairs", defArgs s_law_some_pairs, defBody s_law_some_pairs, defScope s_law_some_pairs, [], []⟩
def d__law_bent_once : He.DefD := ⟨("_law_bent_once", none), "_law_bent_once", "_law_bent_once", defArgs s_law_bent_once, defBody s_law_bent_once, defScope s_law_bent_once, [], []⟩
def d__law_any_family : He.DefD := ⟨("_law_any_family", none), "_law_any_family", "_law_any_family", defArgs s_law_any_family, defBody s_law_any_family, defScope s_law_any_family, [], []⟩
def d__law_is_column : He.DefD := ⟨("_law_is_column", none), "_law_is_column", "_law_is_column", defArgs s_law_is_column, defBody s_law_is_column, defScope s_law_is_column, [], []⟩
def d__law_due : He.DefD := ⟨("_law_due", none), "_law_due", "_law_due", defArgs s_law_due, defBody s_law_due, defScope s_law_due, [], []⟩
def d_check_column : He.DefD := ⟨("check_column", none), "check_column", "check_column", defArgs s_check_column, defBody s_check_column, defScope s_check_column, [], []⟩
def d_check_calm : He.DefD := ⟨("check_calm", none), "check_calm", "check_calm", defArgs s_check_calm, defBody s_check_calm, defScope s_check_calm, [], []⟩
def d_odds : He.DefD := ⟨("odds", none), "odds", "odds", defArgs s_odds, defBody s_odds, defScope s_odds, [], []⟩
def d__law_told : He.DefD := ⟨("_law_told", none), "_law_told", "_law_told", defArgs s_told, defBody s_told, defScope s_told, [], []⟩
def d__law_is_great_right : He.DefD := ⟨("_law_is_great_right", none), "_law_is_great_right", "_law_is_great_right", defArgs s_law_is_great_right, defBody s_law_is_great_right, defScope s_law_is_great_right, [], []⟩
def d__law_hand : He.DefD := ⟨("_law_hand", none), "_law_hand", "_law_hand", defArgs s_hand, defBody s_hand, defScope s_hand, [], []⟩
def d_law : He.DefD := ⟨("law", none), "law", "law", defArgs s_law, defBody s_law, defScope s_law, [], []⟩
def d_init : He.DefD := ⟨("Whole", some "__init__"), "__init__", "Whole.__init__", defArgs s_init, defBody s_init, defScope s_init, [], []⟩
def d_eq : He.DefD := ⟨("Whole", some "__eq__"), "__eq__", "Whole.__eq__", defArgs s_eq, defBody s_eq, defScope s_eq, [], []⟩
def d_nm : He.DefD := ⟨("NotCalm", some "__init__"), "__init__", "NotCalm.__init__", defArgs s_nm, defBody s_nm, defScope s_nm, [], []⟩
def fn1 : List He.DefD := [d_is_integer, d_is_within, d_is_lot, d_is_pair, d_divisor, d_lowest, d_is_fraction, d_plus, d_over, d_add_all, d_is_sizes, d_is_content, d_tuples_of, d_contents_of, d_pattern_of, d_is_place, d_uneven_pattern, d_shares_of, d_pattern_at, d_family, d_first_wrong, d_first_bad, d_pairs_of, d_quotients_along, d_without, d_first_uncalm, d__law_draw]
def fn2 : List He.DefD := [d__law_any, d__law_low, d__law_sizes, d__law_contents, d__law_patterns, d__law_view, d__law_has_all, d__law_rows, d__law_tops, d__law_woven, d__law_uncalm, d__law_bent, d__law_great_sizes, d__law_some_pairs, d__law_bent_once, d__law_any_family, d__law_is_column, d__law_due, d_check_column, d_check_calm, d_odds, d__law_told, d__law_is_great_right, d__law_hand, d_law, d_init, d_eq, d_nm]
def fn : List He.DefD := fn1 ++ fn2
def fa1 : List He.Fa := [.glo "is_integer", .glo "is_within", .glo "is_lot", .glo "is_pair", .glo "divisor", .glo "lowest", .glo "is_fraction", .glo "plus", .glo "over", .glo "add_all", .glo "is_sizes", .glo "is_content", .glo "tuples_of", .glo "contents_of", .glo "pattern_of", .glo "is_place", .glo "uneven_pattern", .glo "shares_of", .glo "pattern_at", .glo "family", .glo "first_wrong", .glo "first_bad", .glo "pairs_of", .glo "quotients_along", .glo "without", .glo "first_uncalm", .glo "_law_draw", .glo "_law_any", .glo "_law_low", .glo "_law_sizes"]
def fa2 : List He.Fa := [.glo "_law_contents", .glo "_law_patterns", .glo "_law_view", .glo "_law_has_all", .glo "_law_rows", .glo "_law_tops", .glo "_law_woven", .glo "_law_uncalm", .glo "_law_bent", .glo "_law_great_sizes", .glo "_law_some_pairs", .glo "_law_bent_once", .glo "_law_any_family", .glo "_law_is_column", .glo "_law_due", .glo "check_column", .glo "check_calm", .glo "odds", .glo "_law_told", .glo "_law_is_great_right", .glo "_law_hand", .glo "law", .glo "Whole", .glo "NoColumn", .glo "NoPattern", .glo "NotCalm", .glo "NoView", .glo "BlankError", .glo "ZERO", .glo "ONE"]
def fa3 : List He.Fa := [.free "isinstance", .free "int", .free "bool", .free "tuple", .free "list", .free "dict", .free "set", .free "len", .free "abs", .free "all", .free "any", .free "sum", .free "sorted", .free "range", .free "enumerate", .free "zip", .free "ValueError", .int "MOST_COLUMNS" 4, .int "MOST_WORTHS" 4, .int "MOST_CONTENTS" 64, .int "BLANK" (-1), .cls "Whole", .noat "Whole" "sizes", .noat "Whole" "shares", .mkr "Whole", .exc "NoColumn", .exc "NoPattern", .noat "NotCalm" "column"]
def fa : List He.Fa := fa1 ++ (fa2 ++ fa3)
def loose1 : List PySem.Str := ["is_integer", "is_within", "is_lot", "is_pair", "BlankError", "NoPattern", "BadWhole", "NoColumn", "NotCalm", "NoView", "divisor", "lowest", "is_fraction", "plus", "over", "add_all", "is_sizes", "is_content", "tuples_of", "contents_of", "pattern_of", "first_wrong", "first_bad", "is_place", "uneven_pattern", "Whole", "shares_of", "pattern_at", "family", "pairs_of", "quotients_along", "without"]
def loose2 : List PySem.Str := ["first_uncalm", "check_column", "check_calm", "odds", "_law_hand", "_law_draw", "_law_any", "_law_low", "_law_sizes", "_law_contents", "_law_patterns", "_law_view", "_law_has_all", "_law_rows", "_law_tops", "_law_woven", "_law_uncalm", "_law_bent", "_law_great_sizes", "_law_some_pairs", "_law_bent_once", "_law_any_family", "_law_told", "_law_is_column", "_law_due", "_law_is_great_right", "ZERO", "ONE", "MOST_COLUMNS", "MOST_WORTHS", "MOST_CONTENTS", "BLANK"]
def loose : List PySem.Str := loose1 ++ loose2
/-! ### further facts, as Bools -/
def tB1 (o : Option Bool) (b : Bool) : Bool := decide (o = some b)
theorem tB1_ok {o : Option Bool} {b : Bool} (h : tB1 o b = true) : o = some b := of_decide_eq_true h
def wfB (K : PySem.W.Frag) (C : Addr) : Bool := He.eqO (PySem.W.findIn K (.ref C) "__class__") (some (some (.builtin "object.__class__"))) && (He.eqO (PySem.W.specialIn K (.builtin "object.__class__") "__get__") (some (some (.builtin "getset_descriptor.__get__"))) && (tB1 (PySem.W.takesIn K (.builtin "object.__class__")) true && (tB1 (PySem.W.mroIn K C (.type "object")) true &&
  (tB1 (PySem.W.kitOne K (.ref C) (.ref C)) true && (tB1 (PySem.W.kitOne K (.ref C) (.type "int")) false && (tB1 (PySem.W.kitOne K (.ref C) (.type "bool")) false && (tB1 (PySem.W.kitOne K (.ref C) (.type "tuple")) false && (tB1 (PySem.W.kitOne K (.type "NoneType") (.ref C)) false && (tB1 (PySem.W.kitOne K (.type "bool") (.ref C)) false && (tB1 (PySem.W.kitOne K (.type "int") (.ref C)) false &&
  (tB1 (PySem.W.kitOne K (.type "str") (.ref C)) false && (tB1 (PySem.W.kitOne K (.type "tuple") (.ref C)) false && (tB1 (PySem.W.kitOne K (.type "list") (.ref C)) false && tB1 (PySem.W.kitOne K (.type "dict") (.ref C)) false)))))))))))))
theorem wfB_ok {K : PySem.W.Frag} {C : Addr} (h : wfB K C = true) (cl : Cls K C) (sz : NoAttr K C "sizes") (sh : NoAttr K C "shares") : Wf K C := by
  obtain ⟨a1, h⟩ := He.ba h
  obtain ⟨a2, h⟩ := He.ba h
  obtain ⟨a3, h⟩ := He.ba h
  obtain ⟨a4, h⟩ := He.ba h
  obtain ⟨a5, h⟩ := He.ba h
  obtain ⟨a6, h⟩ := He.ba h
  obtain ⟨a7, h⟩ := He.ba h
  obtain ⟨a8, h⟩ := He.ba h
  obtain ⟨a9, h⟩ := He.ba h
  obtain ⟨a10, h⟩ := He.ba h
  obtain ⟨a11, h⟩ := He.ba h
  obtain ⟨a12, h⟩ := He.ba h
  obtain ⟨a13, h⟩ := He.ba h
  obtain ⟨a14, a15⟩ := He.ba h
  exact ⟨cl, sz, sh, He.eqO_ok a1, He.eqO_ok a2, tB1_ok a3, tB1_ok a4, tB1_ok a5, tB1_ok a6, tB1_ok a7, tB1_ok a8, tB1_ok a9, tB1_ok a10, tB1_ok a11, tB1_ok a12, tB1_ok a13, tB1_ok a14, tB1_ok a15⟩
def eqkB (K : PySem.W.Frag) (C f : Addr) : Bool := He.eqO (PySem.W.findIn K (.ref C) "__eq__") (some (some (.ref f))) && (PySem.W.isFn K (.ref f) && (He.eqO (PySem.W.findIn K (.ref C) "__ne__") (some (some (.builtin "object.__ne__"))) && (tB1 (PySem.W.mroIn K C (.type "object")) true && tB1 (PySem.W.subIn K (.ref C) (.type "tuple")) false)))
theorem eqkB_ok {K : PySem.W.Frag} {C f : Addr} (h : eqkB K C f = true) : EqK K C f := by
  obtain ⟨a1, h⟩ := He.ba h
  obtain ⟨a2, h⟩ := He.ba h
  obtain ⟨a3, h⟩ := He.ba h
  obtain ⟨a4, a5⟩ := He.ba h
  exact ⟨He.eqO_ok a1, a2, He.eqO_ok a3, tB1_ok a4, tB1_ok a5⟩
def oexB (K : PySem.W.Frag) (C : Addr) : Bool := (match K.lookup C with
  | some ⟨.type "type", _, .cls cd, sl⟩ => (match cd.mro, sl.toList with
    | .ref C' :: bm, [_, _, _, _, some (.builtin n), _] => C' == C && n == "ValueError.__new__" && !cd.hasDel && cd.hasDict && PySem.HandSPX.refsVE bm
    | _, _ => false)
  | _ => false) && (He.eqO (PySem.W.findIn K (.ref C) "__setattr__") (some (some (.builtin "object.__setattr__"))) && (tB1 (PySem.W.subIn K (.ref C) (.type "BaseException")) true && (decide (PySem.W.typeIn K (.ref C) = some (.type "type")) && PySem.W.keepIn K (.ref C))))
theorem oexB_ok {K : PySem.W.Frag} {C : Addr} (h : oexB K C = true) : OexC K C := by
  obtain ⟨q, h⟩ := He.ba h
  obtain ⟨a2, h⟩ := He.ba h
  obtain ⟨a3, h⟩ := He.ba h
  obtain ⟨a4, a5⟩ := He.ba h
  refine ⟨?_, He.eqO_ok a2, tB1_ok a3, of_decide_eq_true a4, a5⟩
  split at q
  · rename_i dd cd sl ho
    split at q
    · rename_i C' bm k0 k1 k2 k3 n k5 hm hs
      simp only [Bool.and_eq_true, beq_iff_eq, Bool.not_eq_true'] at q
      obtain ⟨⟨⟨⟨rfl, rfl⟩, hdel⟩, hd⟩, ht⟩ := q
      obtain ⟨nm, bs, mro, ns, qn, hd', sn, sub, ab, col, del⟩ := cd
      dsimp only at hm hdel hd
      subst hm hdel hd
      have hsl : sl = #[k0, k1, k2, k3, some (.builtin "ValueError.__new__"), k5] := by
        obtain ⟨l⟩ := sl
        simp only at hs
        rw [hs]
      subst hsl
      exact ⟨nm, qn, ns, bs, bm, sn, sub, ab, col, dd, k0, k1, k2, k3, k5, ho, ht⟩
    · cases q
  · cases q
def ecB (K : PySem.W.Frag) (D : Addr) : Bool := He.eqO (PySem.W.findIn K (.ref D) "__getattribute__") (some (some (.builtin "BaseException.__getattribute__"))) && (He.eqO (PySem.W.findIn K (.ref D) "__getattr__") (some none) && (tB1 (PySem.W.subIn K (.ref D) (.type "BaseException")) true && (PySem.W.hasDictIn K D && (He.eqO (PySem.W.findIn K (.ref D) "__class__") (some (some (.builtin "object.__class__"))) &&
  (He.eqO (PySem.W.specialIn K (.builtin "object.__class__") "__get__") (some (some (.builtin "getset_descriptor.__get__"))) && (tB1 (PySem.W.takesIn K (.builtin "object.__class__")) true && tB1 (PySem.W.mroIn K D (.type "object")) true))))))
theorem ecB_ok {K : PySem.W.Frag} {D : Addr} (h : ecB K D = true) : ExcC K D := by
  obtain ⟨a1, h⟩ := He.ba h
  obtain ⟨a2, h⟩ := He.ba h
  obtain ⟨a3, h⟩ := He.ba h
  obtain ⟨a4, h⟩ := He.ba h
  obtain ⟨a5, h⟩ := He.ba h
  obtain ⟨a6, h⟩ := He.ba h
  obtain ⟨a7, a8⟩ := He.ba h
  exact ⟨He.eqO_ok a1, He.eqO_ok a2, tB1_ok a3, a4, He.eqO_ok a5, He.eqO_ok a6, tB1_ok a7, tB1_ok a8⟩
def kitB (K : PySem.W.Frag) (D cC cP cM cV cB : Addr) (b1 b2 b3 : Bool) : Bool := tB1 (PySem.W.kitOne K (.ref D) (.ref cC)) b1 && (tB1 (PySem.W.kitOne K (.ref D) (.ref cP)) b2 && (tB1 (PySem.W.kitOne K (.ref D) (.ref cM)) b3 && (tB1 (PySem.W.kitOne K (.ref D) (.ref cV)) false && (tB1 (PySem.W.kitOne K (.ref D) (.type "ValueError")) true && tB1 (PySem.W.exmOne K (.ref D) (.ref cB)) true))))
theorem kitB_ok {K : PySem.W.Frag} {D cC cP cM cV cB : Addr} {b1 b2 b3 : Bool} (h : kitB K D cC cP cM cV cB b1 b2 b3 = true) : PySem.W.kitOne K (.ref D) (.ref cC) = some b1 ∧ PySem.W.kitOne K (.ref D) (.ref cP) = some b2 ∧ PySem.W.kitOne K (.ref D) (.ref cM) = some b3 ∧ PySem.W.kitOne K (.ref D) (.ref cV) = some false ∧ PySem.W.kitOne K (.ref D) (.type "ValueError") = some true ∧ PySem.W.exmOne K (.ref D) (.ref cB) = some true := by
  obtain ⟨a1, h⟩ := He.ba h
  obtain ⟨a2, h⟩ := He.ba h
  obtain ⟨a3, h⟩ := He.ba h
  obtain ⟨a4, h⟩ := He.ba h
  obtain ⟨a5, a6⟩ := He.ba h
  exact ⟨tB1_ok a1, tB1_ok a2, tB1_ok a3, tB1_ok a4, tB1_ok a5, tB1_ok a6⟩
def ini (K : PySem.W.Frag) : Addr × Addr := He.cT K ("Whole", some "__init__")
abbrev lamQ : PySem.Str := "Whole.__init__.<locals>.<lambda>"
def cfOf (P : Program) (w : World) (K : PySem.W.Frag) : Cf := ⟨P, w, K, He.ga K "Whole", He.ga K "NoColumn", He.ga K "NoPattern", He.ga K "NotCalm", [((ini K).2, lamQ)], lamQ⟩
def exB (K : PySem.W.Frag) : Bool := wfB K (He.ga K "Whole") && (eqkB K (He.ga K "Whole") (He.ma K (He.ga K "Whole") "__eq__") && (oexB K (He.ga K "NotCalm") && (He.eqO (PySem.W.findIn K (.ref (He.ga K "NotCalm")) "__init__") (some (some (.ref (He.ma K (He.ga K "NotCalm") "__init__")))) && (decide (PySem.W.typeIn K (.ref (He.ma K (He.ga K "NotCalm") "__init__")) = some (.type "function")) &&
  (ecB K (He.ga K "NoColumn") && (ecB K (He.ga K "NoPattern") && (ecB K (He.ga K "NotCalm") && (L2.xfB K (He.ga K "NotCalm") &&
  (kitB K (He.ga K "NoColumn") (He.ga K "NoColumn") (He.ga K "NoPattern") (He.ga K "NotCalm") (He.ga K "NoView") (He.ga K "BlankError") true false false && (kitB K (He.ga K "NoPattern") (He.ga K "NoColumn") (He.ga K "NoPattern") (He.ga K "NotCalm") (He.ga K "NoView") (He.ga K "BlankError") false true false &&
  (kitB K (He.ga K "NotCalm") (He.ga K "NoColumn") (He.ga K "NoPattern") (He.ga K "NotCalm") (He.ga K "NoView") (He.ga K "BlankError") false false true && (He.tupB K "ZERO" [.int 0, .int 1] && He.tupB K "ONE" [.int 1, .int 1]))))))))))))
abbrev tf : List He.Defn := [("Whole", some "__init__")]
abbrev RL : PySem.W.OpenLaw := PySem.Challenge.rw_calmblanks_k28_whole_odds_along_columns
abbrev R : PySem.W.OpenRow := PySem.W.OpenLaw.row RL
abbrev hk : PySem.W.Hook := He.hookX 7 fa fn [] tf exB
def ob (s : PySem.W.SharedT) : He.AlX := He.obsX 7 fa fn [] tf exB (HandSHeadRun.getT s)
theorem ob_eq (s : PySem.W.SharedT) : ob s = hk.obs s.abs := He.obsX_eq (HandSHeadRun.getT_eq s)
theorem facts {w : World} {K : PySem.W.Frag} {h : Heap} {mg : Str → Option Value} {f : Addr} (pure : ∀ (c : Cf) (ns : List Int) (ha la : Addr), ns.length ≤ 63 → ∃ hs', dn_law c (E_law ha) (hand0 ha la ns) = some (.ret (.bl true), hs')) (X : K.In h) (G : h.Ns mainGlobals mg) (hfa : mg ("law" : Str) = some (.ref f)) (S : He.SaysX fa fn [] tf exB w h K) :
    LamX.LawAtS RL w K CX0 12 63 "_law_script" mg f h := by
  obtain ⟨fd_is_integer, F_is_integer⟩ := S.t.d.def_ 0 (d := d_is_integer) rfl
  obtain ⟨fd_is_within, F_is_within⟩ := S.t.d.def_ 1 (d := d_is_within) rfl
  obtain ⟨fd_is_lot, F_is_lot⟩ := S.t.d.def_ 2 (d := d_is_lot) rfl
  obtain ⟨fd_is_pair, F_is_pair⟩ := S.t.d.def_ 3 (d := d_is_pair) rfl
  obtain ⟨fd_divisor, F_divisor⟩ := S.t.d.def_ 4 (d := d_divisor) rfl
  obtain ⟨fd_lowest, F_lowest⟩ := S.t.d.def_ 5 (d := d_lowest) rfl
  obtain ⟨fd_is_fraction, F_is_fraction⟩ := S.t.d.def_ 6 (d := d_is_fraction) rfl
  obtain ⟨fd_plus, F_plus⟩ := S.t.d.def_ 7 (d := d_plus) rfl
  obtain ⟨fd_over, F_over⟩ := S.t.d.def_ 8 (d := d_over) rfl
  obtain ⟨fd_add_all, F_add_all⟩ := S.t.d.def_ 9 (d := d_add_all) rfl
  obtain ⟨fd_is_sizes, F_is_sizes⟩ := S.t.d.def_ 10 (d := d_is_sizes) rfl
  obtain ⟨fd_is_content, F_is_content⟩ := S.t.d.def_ 11 (d := d_is_content) rfl
  obtain ⟨fd_tuples_of, F_tuples_of⟩ := S.t.d.def_ 12 (d := d_tuples_of) rfl
  obtain ⟨fd_contents_of, F_contents_of⟩ := S.t.d.def_ 13 (d := d_contents_of) rfl
  obtain ⟨fd_pattern_of, F_pattern_of⟩ := S.t.d.def_ 14 (d := d_pattern_of) rfl
  obtain ⟨fd_is_place, F_is_place⟩ := S.t.d.def_ 15 (d := d_is_place) rfl
  obtain ⟨fd_uneven_pattern, F_uneven_pattern⟩ := S.t.d.def_ 16 (d := d_uneven_pattern) rfl
  obtain ⟨fd_shares_of, F_shares_of⟩ := S.t.d.def_ 17 (d := d_shares_of) rfl
  obtain ⟨fd_pattern_at, F_pattern_at⟩ := S.t.d.def_ 18 (d := d_pattern_at) rfl
  obtain ⟨fd_family, F_family⟩ := S.t.d.def_ 19 (d := d_family) rfl
  obtain ⟨fd_first_wrong, F_first_wrong⟩ := S.t.d.def_ 20 (d := d_first_wrong) rfl
  obtain ⟨fd_first_bad, F_first_bad⟩ := S.t.d.def_ 21 (d := d_first_bad) rfl
  obtain ⟨fd_pairs_of, F_pairs_of⟩ := S.t.d.def_ 22 (d := d_pairs_of) rfl
  obtain ⟨fd_quotients_along, F_quotients_along⟩ := S.t.d.def_ 23 (d := d_quotients_along) rfl
  obtain ⟨fd_without, F_without⟩ := S.t.d.def_ 24 (d := d_without) rfl
  obtain ⟨fd_first_uncalm, F_first_uncalm⟩ := S.t.d.def_ 25 (d := d_first_uncalm) rfl
  obtain ⟨fd__law_draw, F__law_draw⟩ := S.t.d.def_ 26 (d := d__law_draw) rfl
  obtain ⟨fd__law_any, F__law_any⟩ := S.t.d.def_ 27 (d := d__law_any) rfl
  obtain ⟨fd__law_low, F__law_low⟩ := S.t.d.def_ 28 (d := d__law_low) rfl
  obtain ⟨fd__law_sizes, F__law_sizes⟩ := S.t.d.def_ 29 (d := d__law_sizes) rfl
  obtain ⟨fd__law_contents, F__law_contents⟩ := S.t.d.def_ 30 (d := d__law_contents) rfl
  obtain ⟨fd__law_patterns, F__law_patterns⟩ := S.t.d.def_ 31 (d := d__law_patterns) rfl
  obtain ⟨fd__law_view, F__law_view⟩ := S.t.d.def_ 32 (d := d__law_view) rfl
  obtain ⟨fd__law_has_all, F__law_has_all⟩ := S.t.d.def_ 33 (d := d__law_has_all) rfl
  obtain ⟨fd__law_rows, F__law_rows⟩ := S.t.d.def_ 34 (d := d__law_rows) rfl
  obtain ⟨fd__law_tops, F__law_tops⟩ := S.t.d.def_ 35 (d := d__law_tops) rfl
  obtain ⟨fd__law_woven, F__law_woven⟩ := S.t.d.def_ 36 (d := d__law_woven) rfl
  obtain ⟨fd__law_uncalm, F__law_uncalm⟩ := S.t.d.def_ 37 (d := d__law_uncalm) rfl
  obtain ⟨fd__law_bent, F__law_bent⟩ := S.t.d.def_ 38 (d := d__law_bent) rfl
  obtain ⟨fd__law_great_sizes, F__law_great_sizes⟩ := S.t.d.def_ 39 (d := d__law_great_sizes) rfl
  obtain ⟨fd__law_some_pairs, F__law_some_pairs⟩ := S.t.d.def_ 40 (d := d__law_some_pairs) rfl
  obtain ⟨fd__law_bent_once, F__law_bent_once⟩ := S.t.d.def_ 41 (d := d__law_bent_once) rfl
  obtain ⟨fd__law_any_family, F__law_any_family⟩ := S.t.d.def_ 42 (d := d__law_any_family) rfl
  obtain ⟨fd__law_is_column, F__law_is_column⟩ := S.t.d.def_ 43 (d := d__law_is_column) rfl
  obtain ⟨fd__law_due, F__law_due⟩ := S.t.d.def_ 44 (d := d__law_due) rfl
  obtain ⟨fd_check_column, F_check_column⟩ := S.t.d.def_ 45 (d := d_check_column) rfl
  obtain ⟨fd_check_calm, F_check_calm⟩ := S.t.d.def_ 46 (d := d_check_calm) rfl
  obtain ⟨fd_odds, F_odds⟩ := S.t.d.def_ 47 (d := d_odds) rfl
  obtain ⟨fd__law_told, F__law_told⟩ := S.t.d.def_ 48 (d := d__law_told) rfl
  obtain ⟨fd__law_is_great_right, F__law_is_great_right⟩ := S.t.d.def_ 49 (d := d__law_is_great_right) rfl
  obtain ⟨fd__law_hand, F__law_hand⟩ := S.t.d.def_ 50 (d := d__law_hand) rfl
  obtain ⟨fd_law, F_law⟩ := S.t.d.def_ 51 (d := d_law) rfl
  obtain ⟨fd_d_init, F_d_init⟩ := S.t.d.def_ 52 (d := d_init) rfl
  obtain ⟨fd_d_eq, F_d_eq⟩ := S.t.d.def_ 53 (d := d_eq) rfl
  obtain ⟨fd_d_nm, F_d_nm⟩ := S.t.d.def_ 54 (d := d_nm) rfl
  have g_is_integer := He.glo_ok X G (S.t.d.fact 0 (f := .glo "is_integer") rfl)
  have g_is_within := He.glo_ok X G (S.t.d.fact 1 (f := .glo "is_within") rfl)
  have g_is_lot := He.glo_ok X G (S.t.d.fact 2 (f := .glo "is_lot") rfl)
  have g_is_pair := He.glo_ok X G (S.t.d.fact 3 (f := .glo "is_pair") rfl)
  have g_divisor := He.glo_ok X G (S.t.d.fact 4 (f := .glo "divisor") rfl)
  have g_lowest := He.glo_ok X G (S.t.d.fact 5 (f := .glo "lowest") rfl)
  have g_is_fraction := He.glo_ok X G (S.t.d.fact 6 (f := .glo "is_fraction") rfl)
  have g_plus := He.glo_ok X G (S.t.d.fact 7 (f := .glo "plus") rfl)
  have g_over := He.glo_ok X G (S.t.d.fact 8 (f := .glo "over") rfl)
  have g_add_all := He.glo_ok X G (S.t.d.fact 9 (f := .glo "add_all") rfl)
  have g_is_sizes := He.glo_ok X G (S.t.d.fact 10 (f := .glo "is_sizes") rfl)
  have g_is_content := He.glo_ok X G (S.t.d.fact 11 (f := .glo "is_content") rfl)
  have g_tuples_of := He.glo_ok X G (S.t.d.fact 12 (f := .glo "tuples_of") rfl)
  have g_contents_of := He.glo_ok X G (S.t.d.fact 13 (f := .glo "contents_of") rfl)
  have g_pattern_of := He.glo_ok X G (S.t.d.fact 14 (f := .glo "pattern_of") rfl)
  have g_is_place := He.glo_ok X G (S.t.d.fact 15 (f := .glo "is_place") rfl)
  have g_uneven_pattern := He.glo_ok X G (S.t.d.fact 16 (f := .glo "uneven_pattern") rfl)
  have g_shares_of := He.glo_ok X G (S.t.d.fact 17 (f := .glo "shares_of") rfl)
  have g_pattern_at := He.glo_ok X G (S.t.d.fact 18 (f := .glo "pattern_at") rfl)
  have g_family := He.glo_ok X G (S.t.d.fact 19 (f := .glo "family") rfl)
  have g_first_wrong := He.glo_ok X G (S.t.d.fact 20 (f := .glo "first_wrong") rfl)
  have g_first_bad := He.glo_ok X G (S.t.d.fact 21 (f := .glo "first_bad") rfl)
  have g_pairs_of := He.glo_ok X G (S.t.d.fact 22 (f := .glo "pairs_of") rfl)
  have g_quotients_along := He.glo_ok X G (S.t.d.fact 23 (f := .glo "quotients_along") rfl)
  have g_without := He.glo_ok X G (S.t.d.fact 24 (f := .glo "without") rfl)
  have g_first_uncalm := He.glo_ok X G (S.t.d.fact 25 (f := .glo "first_uncalm") rfl)
  have g__law_draw := He.glo_ok X G (S.t.d.fact 26 (f := .glo "_law_draw") rfl)
  have g__law_any := He.glo_ok X G (S.t.d.fact 27 (f := .glo "_law_any") rfl)
  have g__law_low := He.glo_ok X G (S.t.d.fact 28 (f := .glo "_law_low") rfl)
  have g__law_sizes := He.glo_ok X G (S.t.d.fact 29 (f := .glo "_law_sizes") rfl)
  have g__law_contents := He.glo_ok X G (S.t.d.fact 30 (f := .glo "_law_contents") rfl)
  have g__law_patterns := He.glo_ok X G (S.t.d.fact 31 (f := .glo "_law_patterns") rfl)
  have g__law_view := He.glo_ok X G (S.t.d.fact 32 (f := .glo "_law_view") rfl)
  have g__law_has_all := He.glo_ok X G (S.t.d.fact 33 (f := .glo "_law_has_all") rfl)
  have g__law_rows := He.glo_ok X G (S.t.d.fact 34 (f := .glo "_law_rows") rfl)
  have g__law_tops := He.glo_ok X G (S.t.d.fact 35 (f := .glo "_law_tops") rfl)
  have g__law_woven := He.glo_ok X G (S.t.d.fact 36 (f := .glo "_law_woven") rfl)
  have g__law_uncalm := He.glo_ok X G (S.t.d.fact 37 (f := .glo "_law_uncalm") rfl)
  have g__law_bent := He.glo_ok X G (S.t.d.fact 38 (f := .glo "_law_bent") rfl)
  have g__law_great_sizes := He.glo_ok X G (S.t.d.fact 39 (f := .glo "_law_great_sizes") rfl)
  have g__law_some_pairs := He.glo_ok X G (S.t.d.fact 40 (f := .glo "_law_some_pairs") rfl)
  have g__law_bent_once := He.glo_ok X G (S.t.d.fact 41 (f := .glo "_law_bent_once") rfl)
  have g__law_any_family := He.glo_ok X G (S.t.d.fact 42 (f := .glo "_law_any_family") rfl)
  have g__law_is_column := He.glo_ok X G (S.t.d.fact 43 (f := .glo "_law_is_column") rfl)
  have g__law_due := He.glo_ok X G (S.t.d.fact 44 (f := .glo "_law_due") rfl)
  have g_check_column := He.glo_ok X G (S.t.d.fact 45 (f := .glo "check_column") rfl)
  have g_check_calm := He.glo_ok X G (S.t.d.fact 46 (f := .glo "check_calm") rfl)
  have g_odds := He.glo_ok X G (S.t.d.fact 47 (f := .glo "odds") rfl)
  have g__law_told := He.glo_ok X G (S.t.d.fact 48 (f := .glo "_law_told") rfl)
  have g__law_is_great_right := He.glo_ok X G (S.t.d.fact 49 (f := .glo "_law_is_great_right") rfl)
  have g__law_hand := He.glo_ok X G (S.t.d.fact 50 (f := .glo "_law_hand") rfl)
  have g_law := He.glo_ok X G (S.t.d.fact 51 (f := .glo "law") rfl)
  have g_Whole := He.glo_ok X G (S.t.d.fact 52 (f := .glo "Whole") rfl)
  have g_NoColumn := He.glo_ok X G (S.t.d.fact 53 (f := .glo "NoColumn") rfl)
  have g_NoPattern := He.glo_ok X G (S.t.d.fact 54 (f := .glo "NoPattern") rfl)
  have g_NotCalm := He.glo_ok X G (S.t.d.fact 55 (f := .glo "NotCalm") rfl)
  have g_NoView := He.glo_ok X G (S.t.d.fact 56 (f := .glo "NoView") rfl)
  have g_BlankError := He.glo_ok X G (S.t.d.fact 57 (f := .glo "BlankError") rfl)
  have g_ZERO := He.glo_ok X G (S.t.d.fact 58 (f := .glo "ZERO") rfl)
  have g_ONE := He.glo_ok X G (S.t.d.fact 59 (f := .glo "ONE") rfl)
  have n_isinstance := He.free_ok X G (S.t.d.fact 60 (f := .free "isinstance") rfl)
  have n_int := He.free_ok X G (S.t.d.fact 61 (f := .free "int") rfl)
  have n_bool := He.free_ok X G (S.t.d.fact 62 (f := .free "bool") rfl)
  have n_tuple := He.free_ok X G (S.t.d.fact 63 (f := .free "tuple") rfl)
  have n_list := He.free_ok X G (S.t.d.fact 64 (f := .free "list") rfl)
  have n_dict := He.free_ok X G (S.t.d.fact 65 (f := .free "dict") rfl)
  have n_set := He.free_ok X G (S.t.d.fact 66 (f := .free "set") rfl)
  have n_len := He.free_ok X G (S.t.d.fact 67 (f := .free "len") rfl)
  have n_abs := He.free_ok X G (S.t.d.fact 68 (f := .free "abs") rfl)
  have n_all := He.free_ok X G (S.t.d.fact 69 (f := .free "all") rfl)
  have n_any := He.free_ok X G (S.t.d.fact 70 (f := .free "any") rfl)
  have n_sum := He.free_ok X G (S.t.d.fact 71 (f := .free "sum") rfl)
  have n_sorted := He.free_ok X G (S.t.d.fact 72 (f := .free "sorted") rfl)
  have n_range := He.free_ok X G (S.t.d.fact 73 (f := .free "range") rfl)
  have n_enumerate := He.free_ok X G (S.t.d.fact 74 (f := .free "enumerate") rfl)
  have n_zip := He.free_ok X G (S.t.d.fact 75 (f := .free "zip") rfl)
  have n_ValueError := He.free_ok X G (S.t.d.fact 76 (f := .free "ValueError") rfl)
  have i_MOST_COLUMNS := He.int_ok X G (S.t.d.fact 77 (f := .int "MOST_COLUMNS" 4) rfl)
  have i_MOST_WORTHS := He.int_ok X G (S.t.d.fact 78 (f := .int "MOST_WORTHS" 4) rfl)
  have i_MOST_CONTENTS := He.int_ok X G (S.t.d.fact 79 (f := .int "MOST_CONTENTS" 64) rfl)
  have i_BLANK := He.int_ok X G (S.t.d.fact 80 (f := .int "BLANK" (-1)) rfl)
  have k_cls := He.cls_ok (S.t.d.fact 81 (f := .cls "Whole") rfl)
  have k_sz := He.noat_ok (S.t.d.fact 82 (f := .noat "Whole" "sizes") rfl)
  have k_sh := He.noat_ok (S.t.d.fact 83 (f := .noat "Whole" "shares") rfl)
  have k_mk := He.mkr_ok (S.t.d.fact 84 (f := .mkr "Whole") rfl)
  have k_xc := He.exc_ok (S.t.d.fact 85 (f := .exc "NoColumn") rfl)
  have k_xp := He.exc_ok (S.t.d.fact 86 (f := .exc "NoPattern") rfl)
  have k_no := He.noat_ok (S.t.d.fact 87 (f := .noat "NotCalm" "column") rfl)
  obtain ⟨e1, e⟩ := He.ba S.more
  obtain ⟨e2, e⟩ := He.ba e
  obtain ⟨e3, e⟩ := He.ba e
  obtain ⟨e4, e⟩ := He.ba e
  obtain ⟨e5, e⟩ := He.ba e
  obtain ⟨e6, e⟩ := He.ba e
  obtain ⟨e7, e⟩ := He.ba e
  obtain ⟨e8, e⟩ := He.ba e
  obtain ⟨e9, e⟩ := He.ba e
  obtain ⟨e10, e⟩ := He.ba e
  obtain ⟨e11, e⟩ := He.ba e
  obtain ⟨e12, e⟩ := He.ba e
  obtain ⟨e13, e14⟩ := He.ba e
  have efa := hfa.symm.trans g_law
  cases efa
  have hcode : fd_d_init.code = .ref (ini K).1 := by
    obtain ⟨oc, od, dV, kV, doc, pm, an, cdv, ct, osl, rfl, lk, hcd, _, _⟩ := F_d_init.ex
    obtain ⟨cc, rfl⟩ := He.codeIn_ref hcd
    have e := He.codeOf_eq (K := K) (p := ("Whole", some "__init__")) lk rfl
    show Value.ref cc = Value.ref (ini K).1
    unfold ini He.cT
    rw [e]
  have hhd : PySem.W.codeHdIn K (ini K).1 (ini K).2 = true := S.hd _ List.mem_cons_self
  have b := FunD.bindsA (ps := ["_law_script"]) F_law fun _ _ _ _ _ _ us hl => match us, hl with | [_], _ => rfl
  refine ⟨fd_law, [ini K], spLaw (cfOf RL.prog w K), fun p hp => ?_, fun p hp => ?_, fun p hp => ?_, fun s v => b s [v] rfl, fun H a ns hl _ hT hS => ?_, fun base hK hN hT => ?_⟩
  · rw [List.mem_singleton.mp hp]; exact S.empty _ List.mem_cons_self
  · rw [List.mem_singleton.mp hp]; exact S.out _ List.mem_cons_self
  · rw [List.mem_singleton.mp hp]; exact PySem.W.codeHd_of_K X hhd
  · refine ⟨a, ns, rfl, hS, hl, fun p hp => ?_, fun ha la => pure _ ns ha la hl, fun _ => rfl⟩
    have hp : p ∈ [((ini K).2, lamQ)] := hp
    rw [List.mem_singleton.mp hp]
    exact LamX.TabS.nil (hT _ List.mem_cons_self)
  generalize hc : cfOf RL.prog w K = c
  have cP : c.P = RL.prog := by rw [← hc]; rfl
  have cw : c.w = w := by rw [← hc]; rfl
  have cK : c.K = K := by rw [← hc]; rfl
  have cC : c.C = He.ga K "Whole" := by rw [← hc]; rfl
  have c1 : c.cNC = He.ga K "NoColumn" := by rw [← hc]; rfl
  have c2 : c.cNP = He.ga K "NoPattern" := by rw [← hc]; rfl
  have c3 : c.cNM = He.ga K "NotCalm" := by rw [← hc]; rfl
  have c4 : c.T = [((ini K).2, lamQ)] := by rw [← hc]; rfl
  have c5 : c.lamq = lamQ := by rw [← hc]; rfl
  have hW : Wf c.K c.C := by rw [cK, cC]; exact wfB_ok e1 k_cls k_sz k_sh
  have hB : Bt mg := ⟨n_isinstance, n_int, n_bool, n_tuple, n_list, n_dict, n_set, n_len, n_abs, n_all, n_any, n_sum, n_sorted, n_range, n_enumerate, n_zip⟩
  have hG : Gc c mg := ⟨⟨_, g_ZERO, fun F => .tup (by rw [cK]; exact He.tupB_ok e13 F) (.cons (.int 0) (.cons (.int 1) .nil))⟩, ⟨_, g_ONE, fun F => .tup (by rw [cK]; exact He.tupB_ok e14 F) (.cons (.int 1) (.cons (.int 1) .nil))⟩, i_MOST_COLUMNS, i_MOST_WORTHS, i_MOST_CONTENTS, i_BLANK, by rw [cC]; exact g_Whole⟩
  have TB : LamX.TabB base mg (ini K).1 (ini K).2 := hT _ List.mem_cons_self
  rw [← cP, ← cw]
  clear hc
  subst cK
  have h_is_integer := ok_is_integer (c := c) (mg := mg) (base := base) hW hB hG F_is_integer g_is_integer
  have h_is_within := ok_is_within (c := c) (mg := mg) (base := base) hW hB hG h_is_integer F_is_within g_is_within
  have h_is_lot := ok_is_lot (c := c) (mg := mg) (base := base) hW hB hG h_is_within F_is_lot g_is_lot
  have h_is_pair := ok_is_pair (c := c) (mg := mg) (base := base) hW hB hG F_is_pair g_is_pair
  have h_divisor := ok_divisor (c := c) (mg := mg) (base := base) hW hB hG F_divisor g_divisor
  have h_lowest := ok_lowest (c := c) (mg := mg) (base := base) hW hB hG h_divisor F_lowest g_lowest
  have h_is_fraction := ok_is_fraction (c := c) (mg := mg) (base := base) hW hB hG h_is_pair h_is_integer h_divisor F_is_fraction g_is_fraction
  have h_plus := ok_plus (c := c) (mg := mg) (base := base) hW hB hG h_lowest F_plus g_plus
  have h_over := ok_over (c := c) (mg := mg) (base := base) hW hB hG h_lowest F_over g_over
  have h_add_all := ok_add_all (c := c) (mg := mg) (base := base) hW hB hG h_plus F_add_all g_add_all
  have h_is_sizes := ok_is_sizes (c := c) (mg := mg) (base := base) hW hB hG h_is_within F_is_sizes g_is_sizes
  have h_is_content := ok_is_content (c := c) (mg := mg) (base := base) hW hB hG h_is_within F_is_content g_is_content
  have h_tuples_of := ok_tuples_of (c := c) (mg := mg) (base := base) hW hB hG F_tuples_of g_tuples_of
  have h_contents_of := ok_contents_of (c := c) (mg := mg) (base := base) hW hB hG h_tuples_of F_contents_of g_contents_of
  have h_pattern_of := ok_pattern_of (c := c) (mg := mg) (base := base) hW hB hG F_pattern_of g_pattern_of
  have h_is_place := ok_is_place (c := c) (mg := mg) (base := base) hW hB hG h_is_pair h_is_content h_is_lot F_is_place g_is_place
  have h_uneven_pattern := ok_uneven_pattern (c := c) (mg := mg) (base := base) hW hB hG h_contents_of F_uneven_pattern g_uneven_pattern
  have h_shares_of := ok_shares_of (c := c) (mg := mg) (base := base) hW hB hG F_shares_of g_shares_of
  have h_pattern_at := ok_pattern_at (c := c) (mg := mg) (base := base) hW hB hG h_is_pair h_pattern_of F_pattern_at g_pattern_at
  have h_family := ok_family (c := c) (mg := mg) (base := base) hW hB hG h_pattern_at F_family g_family
  have h_first_wrong : ∀ (f0 c0 : Addr) (x0 : V), DfS c mg base "first_wrong" (lamCond c f0 c0 x0) _ (G_first_wrong c f0 c0 x0) := fun f0 c0 x0 => ok_first_wrong (c := c) (mg := mg) (base := base) hW hB hG h_is_pair h_is_place h_is_fraction F_first_wrong g_first_wrong
  have h_first_bad : ∀ (f0 c0 : Addr) (x0 : V), DfS c mg base "first_bad" (lamCond c f0 c0 x0) _ (G_first_bad c f0 c0 x0) := fun f0 c0 x0 => ok_first_bad (c := c) (mg := mg) (base := base) hW hB hG h_is_sizes (h_first_wrong f0 c0 x0) h_add_all F_first_bad g_first_bad
  have h_pairs_of := ok_pairs_of (c := c) (mg := mg) (base := base) hW hB hG h_family F_pairs_of g_pairs_of
  have h_quotients_along := ok_quotients_along (c := c) (mg := mg) (base := base) hW hB hG h_shares_of h_contents_of h_over F_quotients_along g_quotients_along
  have h_without := ok_without (c := c) (mg := mg) (base := base) hW hB hG F_without g_without
  have h_first_uncalm := ok_first_uncalm (c := c) (mg := mg) (base := base) hW hB hG h_pairs_of h_quotients_along h_without F_first_uncalm g_first_uncalm
  have h__law_draw := ok_law_draw (c := c) (mg := mg) (base := base) hW hB hG F__law_draw g__law_draw
  have h__law_any := ok_law_any (c := c) (mg := mg) (base := base) hW hB hG h__law_draw F__law_any g__law_any
  have h__law_low := ok_law_low (c := c) (mg := mg) (base := base) hW hB hG F__law_low g__law_low
  have h__law_sizes := ok_law_sizes (c := c) (mg := mg) (base := base) hW hB hG h__law_any F__law_sizes g__law_sizes
  have h__law_contents := ok_law_contents (c := c) (mg := mg) (base := base) hW hB hG F__law_contents g__law_contents
  have h__law_patterns := ok_law_patterns (c := c) (mg := mg) (base := base) hW hB hG F__law_patterns g__law_patterns
  have h__law_view := ok_law_view (c := c) (mg := mg) (base := base) hW hB hG F__law_view g__law_view
  have h__law_has_all := ok_law_has_all (c := c) (mg := mg) (base := base) hW hB hG F__law_has_all g__law_has_all
  have h__law_rows := ok_law_rows (c := c) (mg := mg) (base := base) hW hB hG h__law_low F__law_rows g__law_rows
  have h__law_tops := ok_law_tops (c := c) (mg := mg) (base := base) hW hB hG h__law_any h__law_draw h__law_contents h__law_view F__law_tops g__law_tops
  have h__law_woven := ok_law_woven (c := c) (mg := mg) (base := base) hW hB hG h__law_contents h__law_has_all h__law_view F__law_woven g__law_woven
  have h__law_uncalm := ok_law_uncalm (c := c) (mg := mg) (base := base) hW hB hG h__law_contents F__law_uncalm g__law_uncalm
  have h__law_bent := ok_law_bent (c := c) (mg := mg) (base := base) hW hB hG h__law_draw h__law_any F__law_bent g__law_bent
  have h__law_great_sizes := ok_law_great_sizes (c := c) (mg := mg) (base := base) hW hB hG h__law_any F__law_great_sizes g__law_great_sizes
  have h__law_some_pairs := ok_law_some_pairs (c := c) (mg := mg) (base := base) hW hB hG h__law_patterns h__law_draw h__law_any F__law_some_pairs g__law_some_pairs
  have h__law_bent_once := ok_law_bent_once (c := c) (mg := mg) (base := base) hW hB hG h__law_any F__law_bent_once g__law_bent_once
  have h__law_any_family := ok_law_any_family (c := c) (mg := mg) (base := base) hW hB hG h__law_patterns h__law_any h__law_draw F__law_any_family g__law_any_family
  have h__law_is_column := ok_law_is_column (c := c) (mg := mg) (base := base) hW hB hG F__law_is_column g__law_is_column
  have h__law_due := ok_law_due (c := c) (mg := mg) (base := base) hW hB hG h__law_is_column h__law_uncalm h__law_contents h__law_low F__law_due g__law_due
  have hI : DfW c mg base 8 := ⟨_, _, ok_init hW h_first_bad h_uneven_pattern F_d_init hcode TB (by rw [c4, c5]; exact List.mem_cons_self) (fun p hp _ => by rw [c4] at hp; rw [c5, List.mem_singleton.mp hp]) c5, by rw [cC]; exact k_mk, F_d_init.bindsN fun _ _ _ _ _ _ us hl => match us, hl with | [_, _, _], _ => rfl⟩
  have hQ : DfE c mg base 1 := ok_eq hW hB hG F_d_eq (by rw [cC]; exact eqkB_ok e2)
  have hN : Xn c mg base 1 := ⟨by rw [c3]; exact g_NotCalm, by rw [c3]; exact oexB_ok e3, _, _, _, by rw [c3]; exact He.eqO_ok e4, of_decide_eq_true e5, ok_nm F_d_nm (by rw [c3]; exact oexB_ok e3) (by rw [c3]; exact k_no), F_d_nm.bindsN fun _ _ _ _ _ _ us hl => match us, hl with | [_, _], _ => rfl⟩
  have hXC : Xo c.K mg "NoColumn" c.cNC := ⟨by rw [c1]; exact g_NoColumn, ⟨_, _, _, _, PySem.F.excBase_ValueError, by rw [c1]; exact k_xc.1⟩, by rw [c1]; exact k_xc.2.1, by rw [c1]; exact k_xc.2.2.1, by rw [c1]; exact k_xc.2.2.2⟩
  have hXP : Xo c.K mg "NoPattern" c.cNP := ⟨by rw [c2]; exact g_NoPattern, ⟨_, _, _, _, PySem.F.excBase_ValueError, by rw [c2]; exact k_xp.1⟩, by rw [c2]; exact k_xp.2.1, by rw [c2]; exact k_xp.2.2.1, by rw [c2]; exact k_xp.2.2.2⟩
  have h_check_column := ok_check_column (c := c) (mg := mg) (base := base) hW hB hG h_is_within hXC F_check_column g_check_column
  have h_check_calm := ok_check_calm (c := c) (mg := mg) (base := base) hW hB hG h_first_uncalm hN F_check_calm g_check_calm
  have h_odds := ok_odds (c := c) (mg := mg) (base := base) hW hB hG h_check_column h_pairs_of h_check_calm h_quotients_along h_without hQ hXP F_odds g_odds
  have T : Tf c mg (He.ga c.K "NoView") (He.ga c.K "BlankError") := ⟨by rw [c1]; exact g_NoColumn, by rw [c2]; exact g_NoPattern, by rw [c3]; exact g_NotCalm, g_NoView, g_BlankError, n_ValueError, by rw [c1]; exact ecB_ok e6, by rw [c2]; exact ecB_ok e7, by rw [c3]; exact ecB_ok e8, by rw [c3]; exact L2.xfB_ok e9, by rw [c3]; exact k_no,
    by rw [c1, c2, c3]; exact kitB_ok e10, by rw [c1, c2, c3]; exact kitB_ok e11, by rw [c1, c2, c3]; exact kitB_ok e12⟩
  have hH : DfH c mg base := ⟨_, _, _, ok_law_hand hB F__law_hand, g__law_hand, F__law_hand.kp, F__law_hand.bindsN fun _ _ _ _ _ _ us hl => match us, hl with | [_], _ => rfl⟩
  have hT := ok_law_told (c := c) (mg := mg) (base := base) hB T h_odds F__law_told g__law_told
  have h__law_is_great_right := ok_law_is_great_right (c := c) (mg := mg) (base := base) hW hB hG h__law_great_sizes h__law_some_pairs h__law_tops h__law_woven h__law_bent_once h__law_rows h__law_any h__law_due hI hT F__law_is_great_right g__law_is_great_right
  exact ok_law (c := c) (mg := mg) (base := base) hW hB hG h__law_draw h__law_is_great_right h__law_sizes h__law_any_family h__law_tops h__law_woven h__law_bent h__law_rows h__law_any h__law_patterns h__law_due hI hT hQ hH F_law
end Dl
namespace Dl
open PySem PySem.Spec PyProof.Rows L2
theorem run (w : World) : HandSHeadRun.RunEq R (PySem.W.view R.prog [70]) hk ob 4000 loose w := by
  intro os
  kernel_rfl
end Dl
set_option maxHeartbeats 4000000
/-! The plain law: evaluation of the denotations. First words. -/
namespace Dl
open PySem PySem.Spec PyProof.Rows L2
/-! ### what the operators give -/
theorem ok_int (i : Int) : ok (.int i) = true := by simp [ok, pOk, toPy, SeqAt.shaped, PyData.canLay0, PyData.depth]
theorem eqv_int (i j : Int) : (PyData.int i).eqv (.int j) = decide (i = j) := by
  rw [PyData.eqv]
  by_cases h : i = j <;> simp [h]
theorem dEqX_int (i j : Int) : dEqX (.int i) (.int j) = some (.bl (decide (i = j))) := by
  simp [dEqX, tupOf, dEq, ok_int, toPy, eqv_int]
theorem dLtU_int (i j : Int) : dLtU (.int i) (.int j) = some (.bl (decide (i < j))) := rfl
theorem dNeU_int (i j : Int) : dNeU (.int i) (.int j) = some (.bl (!decide (i = j))) := by
  simp [dNeU, dNe, ok_int, toPy, eqv_int]
/-! ### the hand -/
/-- at most k turns taken -/
structure HI (k : Nat) (hs : HS) : Prop where
  at0 : 0 ≤ hs.at_
  left0 : 0 ≤ hs.left
  cells : ∀ z ∈ hs.cells, 0 ≤ z
  seed0 : 0 ≤ hs.seed
  seed1 : hs.seed ≤ 2147483629
  turn0 : 0 ≤ hs.turn
  turn1 : hs.turn ≤ k
theorem HI.mono {k j : Nat} {hs : HS} (h : HI k hs) (e : k ≤ j) : HI j hs := ⟨h.at0, h.left0, h.cells, h.seed0, h.seed1, h.turn0, Int.le_trans h.turn1 (by omega)⟩
theorem HI.zero (ha la : Addr) (ns : List Int) (hn : ns.length ≤ 63) : HI 0 (hand0 ha la ns) := by
  refine ⟨Int.le_refl _, Int.le_refl _, fun z hz => ?_, ?_, ?_, Int.le_refl _, Int.le_refl _⟩
  · obtain ⟨y, _, rfl⟩ := List.mem_map.mp hz
    unfold absI
    split <;> omega
  · show (0 : Int) ≤ 40961 + (ns.length : Nat); omega
  · show (40961 : Int) + (ns.length : Nat) ≤ 2147483629; omega
theorem log_lt {i : Int} {b : Nat} (h0 : 0 ≤ i) (h : i < (2 : Int) ^ b) : i.natAbs.log2 < b ∨ i = 0 := by
  by_cases z : i = 0
  · exact .inr z
  · refine .inl ((Nat.log2_lt (by omega)).mpr ?_)
    have : ((i.natAbs : Nat) : Int) < ((2 ^ b : Nat) : Int) := by rw [Int.natAbs_of_nonneg h0]; exact_mod_cast h
    exact_mod_cast this
theorem log_le {i : Int} {b : Nat} (h0 : 0 ≤ i) (h : i < (2 : Int) ^ b) : i.natAbs.log2 ≤ b := by
  rcases log_lt h0 h with z | z
  · omega
  · subst z; simp
theorem mul_ok {i j : Int} (b d : Nat) (hi : 0 ≤ i) (hj : 0 ≤ j) (h1 : i < (2 : Int) ^ b) (h2 : j < (2 : Int) ^ d) (h : b + d < 1000000) : mulOk i j := by
  have a1 := log_le hi h1
  have a2 := log_le hj h2
  show i.natAbs.log2 + j.natAbs.log2 < 1000000
  omega
theorem div_ok {j : Int} (b : Nat) (hj : 0 < j) (h2 : j < (2 : Int) ^ b) (h : b < 9000) : divOk j := by
  have a2 := log_le (Int.le_of_lt hj) h2
  exact ⟨hj, by omega⟩
theorem dAdd_int (i j : Int) : dAdd (.int i) (.int j) = some (.int (i + j)) := rfl
theorem dSub_int (i j : Int) : dSub (.int i) (.int j) = some (.int (i - j)) := rfl
theorem dMul_int {i j : Int} (h : mulOk i j) : dMul (.int i) (.int j) = some (.int (i * j)) := if_pos h
theorem dDiv_int {i j : Int} (h : divOk j) : dDiv (.int i) (.int j) = some (.int (i / j)) := if_pos h
theorem dMod_int {i j : Int} (h : 0 < j) : dMod (.int i) (.int j) = some (.int (i % j)) := if_pos h
theorem dGe_int (i j : Int) : dGe (.int i) (.int j) = some (.bl (decide (j ≤ i))) := rfl
theorem dGt_int (i j : Int) : dGt (.int i) (.int j) = some (.bl (decide (j < i))) := rfl
theorem dInt_int (i : Int) : dInt [.int i] = some (.int i) := rfl
theorem dLen_lst (l : List D) : dLen [.lst l] = some (.int l.length) := rfl
theorem dPow18 : dPow (.int 10) (.int 18) = some (.int 1000000000000000000) := by
  unfold dPow
  simp
theorem ix_nat {ds : List D} {i : Nat} {d : D} (h : ds[i]? = some d) : atI ds ((i : Nat) : Int) = some d := by
  have hl := (List.getElem?_eq_some_iff.mp h).1
  unfold atI ixN
  rw [if_pos (by omega), if_pos (by omega)]
  simpa using h
/-! ### steps -/
section
variable {a b : SDn} {t : BDn} {f : EDn} {Γ Γ' : Env} {hs hs' : HS} {r : Res}
theorem seq_nx (h : a Γ hs = some (.nx Γ', hs')) : sSeq a b Γ hs = b Γ' hs' := by simp [sSeq, h]
theorem seq_ret {d : D} (h : a Γ hs = some (.ret d, hs')) : sSeq a b Γ hs = some (.ret d, hs') := by simp [sSeq, h]
theorem if_t (h : t Γ hs = some (true, hs')) : sIf t a b Γ hs = a Γ hs' := by simp [sIf, h]
theorem if_f (h : t Γ hs = some (false, hs')) : sIf t a b Γ hs = b Γ hs' := by simp [sIf, h]
theorem asg {i : Nat} {d : D} (h : f Γ hs = some (d, hs')) : sAsg i f Γ hs = some (.nx (Γ.set i (.dat d)), hs') := by simp [sAsg, h]
theorem ret {d : D} (h : f Γ hs = some (d, hs')) : sRet f Γ hs = some (.ret d, hs') := by simp [sRet, h]
theorem fn_ret {n m : Nat} {g : SDn} {ds : List D} {d : D} (hl : ds.length = n) (h : g (ds.map Sl.dat ++ List.replicate (m - n) .dead) hs = some (.ret d, hs')) : fnG n m g ds hs = some (d, hs') := by
  unfold fnG
  rw [if_pos hl, h]
  rfl
theorem fn_nx {n m : Nat} {g : SDn} {ds : List D} (hl : ds.length = n) (h : g (ds.map Sl.dat ++ List.replicate (m - n) .dead) hs = some (.nx Γ', hs')) : fnG n m g ds hs = some (.non, hs') := by
  unfold fnG
  rw [if_pos hl, h]
  rfl
end
/-! ### _law_draw -/
theorem ev_draw {c : Cf} {k : Nat} {hs : HS} {many : Int} (h : HI k hs) (hk : k ≤ 1000000000) (h0 : 0 < many) (h1 : many ≤ 1000000000) :
    ∃ r hs', G_law_draw c [.hand hs.ad, .int many] hs = some (.int r, hs') ∧ 0 ≤ r ∧ r < many ∧ HI (k + 1) hs' ∧ hs'.ad = hs.ad := by
  have dv : divOk many := div_ok 30 h0 (by omega) (by omega)
  -- the cell, if one is taken
  have st1 : ∃ hs1 x, (sIf (bAnd (bOf (eBin dEqX (eHand (eVar 0) .left) (eC (.int 0)))) (bOf (eBin dLtU (eHand (eVar 0) .at_) (eFn dLen (lCons (eHand (eVar 0) .cells) lNil)))))
    (sSeq (sAsg 2 (eBin dIx (eHand (eVar 0) .cells) (eHand (eVar 0) .at_)))
    (sSeq (sHand (eVar 0) .at_ (eBin dAdd (eHand (eVar 0) .at_) (eC (.int 1))))
    (sSeq (sHand (eVar 0) .seed (eBin dMod (eFn dInt (lCons (eBin dAdd (eBin dAdd (eBin dMul (eHand (eVar 0) .seed) (eC (.int 69621))) (eVar 2)) (eC (.int 11))) lNil)) (eC (.int 2147483629))))
    (sHand (eVar 0) .left (eIf (bOf (eBin dGe (eVar 2) (eBin dPow (eC (.int 10)) (eC (.int 18))))) (eVar 2) (eC (.int 0)))))))
    sNext) [.dat (.hand hs.ad), .dat (.int many), .dead, .dead, .dead] hs = some (.nx [.dat (.hand hs.ad), .dat (.int many), x, .dead, .dead], hs1) ∧ HI k hs1 ∧ hs1.ad = hs.ad := by
    by_cases hz : hs.left = 0 ∧ hs.at_ < hs.cells.length
    · obtain ⟨z1, z2⟩ := hz
      have hat := h.at0
      obtain ⟨j, hj⟩ : ∃ j : Nat, hs.at_ = j := ⟨hs.at_.toNat, by omega⟩
      have hjl : j < hs.cells.length := by omega
      have hcell : (hs.cells.map D.int)[j]? = some (.int hs.cells[j]) := by simp [hjl]
      have hc0 : 0 ≤ hs.cells[j] := h.cells _ (List.getElem_mem hjl)
      have hix := ix_nat hcell
      have hm : mulOk hs.seed 69621 := mul_ok 40 20 h.seed0 (by omega) (by have := h.seed1; omega) (by omega) (by omega)
      refine ⟨{ hs with at_ := hs.at_ + 1, seed := (hs.seed * 69621 + hs.cells[j] + 11) % 2147483629, left := if 1000000000000000000 ≤ hs.cells[j] then hs.cells[j] else 0 }, .dat (.int hs.cells[j]), ?_, ?_, rfl⟩
      · rw [if_t (hs' := hs) (by simp [bAnd, bOf, eBin, eHand, eVar, eC, eFn, lCons, lNil, HS.get, dEqX_int, dLtU_int, dLen_lst, z1, z2])]
        rw [seq_nx (asg (d := .int hs.cells[j]) (hs' := hs) (by simp [eBin, eHand, eVar, HS.get, dIx, hj, hix]))]
        simp [sSeq, sHand, eBin, eHand, eVar, eC, eFn, lCons, lNil, HS.get, HS.put, dAdd_int, dMul_int hm, dInt_int, dMod_int, eIf, bOf, dGe_int, dPow18]
        split <;> simp_all
      · refine ⟨by show 0 ≤ hs.at_ + 1; omega, by show 0 ≤ ite _ _ _; split <;> omega, h.cells, Int.emod_nonneg _ (by omega), Int.le_of_lt (Int.emod_lt_of_pos _ (by omega)), h.turn0, h.turn1⟩
    · refine ⟨hs, .dead, ?_, h, rfl⟩
      rw [if_f (hs' := hs)]
      · rfl
      · simp [bAnd, bOf, eBin, eHand, eVar, eC, eFn, lCons, lNil, HS.get, dEqX_int, dLtU_int, dLen_lst]
        by_cases z1 : hs.left = 0
        · simp [z1] at hz ⊢
          omega
        · simp [z1]
  obtain ⟨hs1, x, e1, H1, ad1⟩ := st1
  have hl := H1.left0
  by_cases hz : 0 < hs1.left
  · have hlt : hs1.left % many < many := Int.emod_lt_of_pos _ h0
    refine ⟨hs1.left % many, { hs1 with left := hs1.left / many }, ?_, Int.emod_nonneg _ (by omega), hlt, ⟨H1.at0, Int.ediv_nonneg hl (by omega), H1.cells, H1.seed0, H1.seed1, H1.turn0, by have := H1.turn1; show hs1.turn ≤ _; omega⟩, ad1⟩
    refine fn_ret rfl ?_
    show sSeq _ _ [.dat (.hand hs.ad), .dat (.int many), .dead, .dead, .dead] hs = _
    rw [seq_nx e1]
    simp [sSeq, sIf, sAsg, sHand, sRet, bOf, eBin, eHand, eVar, eC, eFn, lCons, lNil, HS.get, HS.put, dGt_int, dInt_int, dMod_int h0, dDiv_int dv, ad1, hz]
  · have hz0 : hs1.left = 0 := by omega
    have t0 := H1.turn0
    have t1 := H1.turn1
    have s0 := H1.seed0
    have s1 := H1.seed1
    generalize hn1 : ((hs1.seed + 7927 * (hs1.turn + 1)) * 48271) % 2147483647 = n1
    have b1 : 0 ≤ n1 ∧ n1 < 2147483647 := by rw [← hn1]; exact ⟨Int.emod_nonneg _ (by omega), Int.emod_lt_of_pos _ (by omega)⟩
    generalize hn2 : (n1 * (n1 / 1013 + 69623)) % 2147483587 = n2
    have b2 : 0 ≤ n2 ∧ n2 < 2147483587 := by rw [← hn2]; exact ⟨Int.emod_nonneg _ (by omega), Int.emod_lt_of_pos _ (by omega)⟩
    generalize hn3 : (n2 * (n2 / 2011 + 40693) + (hs1.turn + 1)) % 2147483399 = n3
    have m1 : mulOk 7927 (hs1.turn + 1) := mul_ok 13 40 (by omega) (by omega) (by omega) (by omega) (by omega)
    have m2 : mulOk (hs1.seed + 7927 * (hs1.turn + 1)) 48271 := mul_ok 60 20 (by omega) (by omega) (by omega) (by omega) (by omega)
    have m3 : mulOk n1 (n1 / 1013 + 69623) := mul_ok 40 40 (by omega) (by omega) (by omega) (by omega) (by omega)
    have m4 : mulOk n2 (n2 / 2011 + 40693) := mul_ok 40 40 (by omega) (by omega) (by omega) (by omega) (by omega)
    have d1 : divOk 1013 := div_ok 20 (by omega) (by omega) (by omega)
    have d2 : divOk 2011 := div_ok 20 (by omega) (by omega) (by omega)
    have d3 : divOk 32 := div_ok 20 (by omega) (by omega) (by omega)
    refine ⟨n3 / 32 % many, { hs1 with turn := hs1.turn + 1 }, ?_, Int.emod_nonneg _ (by omega), Int.emod_lt_of_pos _ h0, ⟨H1.at0, H1.left0, H1.cells, H1.seed0, H1.seed1, by show 0 ≤ hs1.turn + 1; omega, by show hs1.turn + 1 ≤ _; omega⟩, ad1⟩
    refine fn_ret rfl ?_
    show sSeq _ _ [.dat (.hand hs.ad), .dat (.int many), .dead, .dead, .dead] hs = _
    rw [seq_nx e1]
    simp [sSeq, sIf, sAsg, sHand, sRet, sNext, bOf, eBin, eHand, eVar, eC, eFn, lCons, lNil, HS.get, HS.put, dGt_int, dInt_int, dMod_int h0, dMod_int, dAdd_int, dMul_int m1, dMul_int m2, ad1, hz0, hn1, dDiv_int d1, dMul_int m3, hn2, dDiv_int d2, dMul_int m4, hn3, dDiv_int d3]
end Dl
namespace Dl
open PySem PySem.Spec PyProof.Rows L2
theorem ix_int {ds : List D} {i : Int} {d : D} (h0 : 0 ≤ i) (h : ds[i.toNat]? = some d) : atI ds i = some d := by
  have := ix_nat h
  rwa [Int.toNat_of_nonneg h0] at this
theorem ev_any {c : Cf} {k : Nat} {hs : HS} {xs : List D} (h : HI k hs) (hk : k ≤ 1000000000) (h0 : xs ≠ []) (h1 : xs.length ≤ 1000) :
    ∃ x hs', G_law_any c [.hand hs.ad, .lst xs] hs = some (x, hs') ∧ x ∈ xs ∧ HI (k + 1) hs' ∧ hs'.ad = hs.ad := by
  have hp : 0 < xs.length := List.length_pos_iff.mpr h0
  obtain ⟨r, hs', e, r0, r1, H1, ad⟩ := ev_draw (c := c) (many := (xs.length : Nat)) h hk (by omega) (by omega)
  have hr : r.toNat < xs.length := by omega
  refine ⟨xs[r.toNat], hs', fn_ret rfl (ret ?_), List.getElem_mem hr, H1, ad⟩
  have hix : atI xs r = some xs[r.toNat] := ix_int r0 (by simp [hr])
  simp [eBin, eVar, eCall, lCons, lNil, eFn, dLen_lst, e, dIx, hix]
/-! ### loops -/
theorem forD_inv {α : Type} {step : D → SDn} (enc : α → D) (I : List α → Env → HS → Prop) : ∀ (xs done : List α), (∀ pre x post Γ hs, done ++ xs = pre ++ x :: post → I pre Γ hs → ∃ Γ' hs', step (enc x) Γ hs = some (.nx Γ', hs') ∧ I (pre ++ [x]) Γ' hs') → ∀ Γ hs, I done Γ hs → ∃ Γ' hs', forD step (xs.map enc) Γ hs = some (.nx Γ', hs') ∧ I (done ++ xs) Γ' hs'
  | [], done, _, Γ, hs, h => ⟨Γ, hs, rfl, by simpa using h⟩
  | x :: xs, done, st, Γ, hs, h => by
    obtain ⟨Γ1, hs1, e1, h1⟩ := st done x xs Γ hs rfl h
    obtain ⟨Γ2, hs2, e2, h2⟩ := forD_inv enc I xs (done ++ [x]) (fun pre y post Γ hs e => st pre y post Γ hs (by simpa using e)) Γ1 hs1 h1
    refine ⟨Γ2, hs2, ?_, by simpa using h2⟩
    rw [List.map_cons, forD]
    simp [e1, e2]
/-- from the start -/
theorem for_inv {α : Type} {step : D → SDn} (enc : α → D) (I : List α → Env → HS → Prop) (xs : List α) {Γ : Env} {hs : HS} (h0 : I [] Γ hs) (st : ∀ pre x post Γ hs, xs = pre ++ x :: post → I pre Γ hs → ∃ Γ' hs', step (enc x) Γ hs = some (.nx Γ', hs') ∧ I (pre ++ [x]) Γ' hs') : ∃ Γ' hs', forD step (xs.map enc) Γ hs = some (.nx Γ', hs') ∧ I xs Γ' hs' := by
  simpa using forD_inv enc I xs [] (fun pre x post Γ hs e => st pre x post Γ hs (by simpa using e)) Γ hs h0
/-- a comprehension whose words leave the hand alone -/
theorem comp_pure {α β : Type} {gd : GDn} {cond : BDn} {elt : EDn} {Γ : Env} {hs : HS} (enc : α → D) (out : β → D) (p : α → Bool) (f : α → β) : ∀ (xs : List α), (∀ x ∈ xs, ∃ Γ', gd (enc x) Γ = some Γ' ∧ cond Γ' hs = some (p x, hs) ∧ (p x = true → elt Γ' hs = some (out (f x), hs))) → compD gd cond elt Γ (xs.map enc) hs = some (((xs.filter p).map f).map out, hs)
  | [], _ => rfl
  | x :: xs, h => by
    obtain ⟨Γ', e1, e2, e3⟩ := h x List.mem_cons_self
    have ih := comp_pure enc out p f xs (fun y hy => h y (List.mem_cons_of_mem _ hy))
    rw [List.map_cons, compD]
    cases hp : p x with
    | false => simp [e1, e2, hp, ih, List.filter_cons]
    | true => simp [e1, e2, hp, e3 hp, ih, List.filter_cons]
theorem comp_map {α β : Type} {gd : GDn} {elt : EDn} {Γ : Env} {hs : HS} (enc : α → D) (out : β → D) (f : α → β) (xs : List α) (h : ∀ x ∈ xs, ∃ Γ', gd (enc x) Γ = some Γ' ∧ elt Γ' hs = some (out (f x), hs)) : compD gd bYes elt Γ (xs.map enc) hs = some ((xs.map f).map out, hs) := by
  have := comp_pure (gd := gd) (cond := bYes) (elt := elt) (Γ := Γ) (hs := hs) enc out (fun _ => true) f xs (fun x hx => by
    obtain ⟨Γ', e1, e2⟩ := h x hx
    exact ⟨Γ', e1, rfl, fun _ => e2⟩)
  rw [List.filter_eq_self.mpr (by simp)] at this
  exact this
theorem for_eq {src : LDn} {gd : GDn} {body : SDn} {items : List D} {Γ : Env} {hs hs1 : HS} (h : src Γ hs = some (items, hs1)) : sFor src gd body Γ hs = forD (stepD gd body) items Γ hs1 := by
  unfold sFor
  rw [h]
  rfl
theorem comp_eq {src : LDn} {js : List Nat} {gd : GDn} {cond : BDn} {elt : EDn} {items ys : List D} {Γ : Env} {hs hs1 hs2 : HS} (hd : deadAll Γ js = true) (h : src Γ hs = some (items, hs1)) (hl : items.length ≤ 100000) (hc : compD gd cond elt Γ items hs1 = some (ys, hs2)) : eComp src js gd cond elt Γ hs = some (.lst ys, hs2) := by
  unfold eComp
  rw [if_pos hd, h]
  simp only [Option.bind_some]
  rw [if_pos hl, hc]
  rfl
theorem ext_eq {i : Nat} {f : EDn} {Γ : Env} {hs hs1 : HS} {ds es : List D} (h : f Γ hs = some (.lst es, hs1)) (hi : Γ[i]? = some (.own (.lst ds))) (hl : ds.length + es.length < 100000) : sExt i f Γ hs = some (.nx (Γ.set i (.own (.lst (ds ++ es)))), hs1) := by
  unfold sExt
  rw [h]
  simp only [Option.bind_some, hi]
  rw [if_pos hl]
theorem rng1_eq {f : EDn} {Γ : Env} {hs hs1 : HS} {n : Int} (h : f Γ hs = some (.int n, hs1)) (h0 : -1000 ≤ n) (h1 : n ≤ 1000) : lRng1 f Γ hs = some ((List.range n.toNat).map (fun (i : Nat) => D.int (i : Int)), hs1) := by
  unfold lRng1
  rw [h]
  simp only [Option.bind_some]
  rw [if_pos ⟨h0, h1⟩]
  unfold rngI
  simp
theorem rng0 (n : Nat) : rngI 0 (n : Int) = (List.range n).map (fun i => D.int (i : Nat)) := by
  unfold rngI
  simp
/-! ### the contents -/
def ext1 (s : Int) (f : List Int) : List (List Int) := (List.range s.toNat).map fun (w : Nat) => f ++ [(w : Int)]
def cts : List Int → List (List Int) → List (List Int)
  | [], acc => acc
  | s :: ss, acc => cts ss (acc.flatMap (ext1 s))
def conts (sizes : List Int) : List (List Int) := cts sizes [[]]
theorem cts_append : ∀ (a b : List Int) (acc : List (List Int)), cts (a ++ b) acc = cts b (cts a acc)
  | [], _, _ => rfl
  | s :: ss, b, acc => by simp [cts, cts_append ss b]
theorem conts_snoc (pre : List Int) (s : Int) : conts (pre ++ [s]) = (conts pre).flatMap (ext1 s) := by
  unfold conts
  rw [cts_append]
  rfl
theorem ext1_len {s : Int} {f g : List Int} (h : g ∈ ext1 s f) : g.length = f.length + 1 := by
  obtain ⟨w, _, rfl⟩ := List.mem_map.mp h
  simp
theorem ext1_card (s : Int) (f : List Int) : (ext1 s f).length = s.toNat := by simp [ext1]
theorem flat_card (s : Int) (fs : List (List Int)) : (fs.flatMap (ext1 s)).length = fs.length * s.toNat := by
  induction fs with
  | nil => simp
  | cons f fs ih => simp [List.flatMap_cons, ih, ext1_card, Nat.add_mul, Nat.add_comm]
theorem cts_len : ∀ (ss : List Int) (acc : List (List Int)) (n : Nat), (∀ f ∈ acc, f.length = n) → ∀ f ∈ cts ss acc, f.length = n + ss.length
  | [], acc, n, h, f, hf => by simpa using h f hf
  | s :: ss, acc, n, h, f, hf => by
    have := cts_len ss (acc.flatMap (ext1 s)) (n + 1) (fun g hg => by
      obtain ⟨f', hf', hg⟩ := List.mem_flatMap.mp hg
      rw [ext1_len hg, h f' hf']) f hf
    simp
    omega
theorem conts_len {ss : List Int} {f : List Int} (hf : f ∈ conts ss) : f.length = ss.length := by
  have := cts_len ss [[]] 0 (by simp) f hf
  omega
/-- sizes of the law: few columns, few worths -/
structure Sz (S : List Int) : Prop where
  len : S.length ≤ 4
  pos : ∀ s ∈ S, 2 ≤ s ∧ s ≤ 4
theorem Sz.sub {S T : List Int} (h : Sz (S ++ T)) : Sz S := ⟨by have := h.len; rw [List.length_append] at this; omega, fun s hs => h.pos s (by simp [hs])⟩
theorem conts_card : ∀ {S : List Int}, (∀ s ∈ S, 2 ≤ s ∧ s ≤ 4) → ∀ acc, (cts S acc).length ≤ acc.length * 4 ^ S.length
  | [], _, acc => by simp [cts]
  | s :: S, h, acc => by
    have ih := conts_card (fun x hx => h x (List.mem_cons_of_mem _ hx)) (acc.flatMap (ext1 s))
    rw [flat_card] at ih
    have hs := h s List.mem_cons_self
    have : s.toNat ≤ 4 := by omega
    rw [List.length_cons, Nat.pow_succ]
    calc (cts (s :: S) acc).length ≤ acc.length * s.toNat * 4 ^ S.length := ih
      _ ≤ acc.length * 4 * 4 ^ S.length := Nat.mul_le_mul_right _ (Nat.mul_le_mul_left _ this)
      _ = acc.length * (4 ^ S.length * 4) := by rw [Nat.mul_assoc, Nat.mul_comm 4]
theorem Sz.card {S : List Int} (h : Sz S) : (conts S).length ≤ 256 := by
  have a := conts_card h.pos [[]]
  have b : 4 ^ S.length ≤ 4 ^ 4 := Nat.pow_le_pow_right (by decide) h.len
  have : (4 : Nat) ^ 4 = 256 := by decide
  unfold conts
  simp at a
  omega
theorem dAdd_tupI (a b : List Int) (h : a.length + b.length ≤ 1000) : dAdd (tupI a) (tupI b) = some (tupI (a ++ b)) := by
  unfold tupI dAdd
  simp only [List.length_map]
  rw [if_pos h, List.map_append]
theorem tup1 (i : Int) : D.tup [.int i] = tupI [i] := rfl
/-- x.extend([front + (w,) for w in range(s)]) for one front -/
theorem ev_contents {c : Cf} {hs : HS} {S : List Int} (h : Sz S) : G_law_contents c [tupI S] hs = some (.lst ((conts S).map tupI), hs) := by
  refine fn_ret rfl ?_
  show dn_law_contents c [.dat (tupI S), .dead, .dead, .dead, .dead, .dead] hs = _
  unfold dn_law_contents
  rw [seq_nx (Γ' := [.dat (tupI S), .dead, .dat (.lst [.tup []]), .dead, .dead, .dead]) (hs' := hs) (by simp [sAsg, eLst, lCons, lNil, eTup])]
  have loop : ∃ Γ' hs', sFor (lItemsT (eVar 0)) (gd1 1)
    (sSeq (sOwn 3 (.lst []))
    (sSeq (sFor (lItemsL (eVar 2)) (gd1 4)
    (sExt 3 (eComp (lRng1 (eVar 1)) [5] (gd1 5) bYes (eBin dAdd (eVar 4) (eTup (lCons (eVar 5) lNil))))))
    (sG (frzE 3) (sAsg 2 (eVar 3))))) [.dat (tupI S), .dead, .dat (.lst [.tup []]), .dead, .dead, .dead] hs = some (.nx Γ', hs') ∧ (hs' = hs ∧ ∃ j1 j3 j4, Γ' = [.dat (tupI S), j1, .dat (.lst ((conts S).map tupI)), j3, j4, .dead]) := by
    rw [for_eq (items := S.map D.int) (hs1 := hs) (by simp [lItemsT, eVar, tupI, tupOf])]
    refine for_inv D.int (fun pre Γ h => h = hs ∧ ∃ j1 j3 j4, Γ = [.dat (tupI S), j1, .dat (.lst ((conts pre).map tupI)), j3, j4, .dead]) S ⟨rfl, _, _, _, rfl⟩ ?_
    rintro pre s post Γ hs1 hS ⟨rfl, j1, j3, j4, rfl⟩
    have hsz : Sz (pre ++ [s]) := by rw [hS] at h; exact Sz.sub (T := post) (by simpa using h)
    have hs2 := hsz.pos s (by simp)
    simp only [stepD, gd1, Option.bind_some, List.set_cons_succ, List.set_cons_zero]
    rw [seq_nx (Γ' := [.dat (tupI S), .dat (.int s), .dat (.lst ((conts pre).map tupI)), .own (.lst []), j4, .dead]) (hs' := hs1) (by simp [sOwn])]
    have inner : ∃ Γ' hs', sFor (lItemsL (eVar 2)) (gd1 4)
        (sExt 3 (eComp (lRng1 (eVar 1)) [5] (gd1 5) bYes (eBin dAdd (eVar 4) (eTup (lCons (eVar 5) lNil))))) [.dat (tupI S), .dat (.int s), .dat (.lst ((conts pre).map tupI)), .own (.lst []), j4, .dead] hs1 = some (.nx Γ', hs') ∧ (hs' = hs1 ∧ ∃ j4, Γ' = [.dat (tupI S), .dat (.int s), .dat (.lst ((conts pre).map tupI)), .own (.lst (((conts pre).flatMap (ext1 s)).map tupI)), j4, .dead]) := by
      rw [for_eq (items := (conts pre).map tupI) (hs1 := hs1) (by simp [lItemsL, eVar])]
      refine for_inv tupI (fun p Γ h => h = hs1 ∧ ∃ j4, Γ = [.dat (tupI S), .dat (.int s), .dat (.lst ((conts pre).map tupI)), .own (.lst ((p.flatMap (ext1 s)).map tupI)), j4, .dead]) (conts pre) ⟨rfl, _, rfl⟩ ?_
      rintro p f q Γ hs3 hC ⟨rfl, j4, rfl⟩
      simp only [stepD, gd1, Option.bind_some, List.set_cons_succ, List.set_cons_zero]
      have hfl : f.length ≤ 4 := by
        have := conts_len (ss := pre) (f := f) (by rw [hC]; simp)
        have := hsz.len
        rw [List.length_append] at this
        omega
      have hcard := hsz.card
      rw [conts_snoc, flat_card] at hcard
      have hpl : (p.flatMap (ext1 s)).length + (ext1 s f).length ≤ 256 := by
        have : (p.flatMap (ext1 s)).length + (ext1 s f).length = (p.length + 1) * s.toNat := by rw [flat_card, ext1_card, Nat.add_mul]; omega
        rw [this]
        refine Nat.le_trans (Nat.mul_le_mul_right _ ?_) hcard
        rw [hC]; simp
      have cm : compD (gd1 5) bYes (eBin dAdd (eVar 4) (eTup (lCons (eVar 5) lNil))) [.dat (tupI S), .dat (.int s), .dat (.lst ((conts pre).map tupI)), .own (.lst ((p.flatMap (ext1 s)).map tupI)), .dat (tupI f), .dead] ((List.range s.toNat).map (fun (i : Nat) => D.int (i : Int))) hs3 = some ((ext1 s f).map tupI, hs3) := by
        refine comp_map (fun (i : Nat) => D.int (i : Int)) tupI (fun (w : Nat) => f ++ [(w : Int)]) (List.range s.toNat) fun w _ => ⟨_, rfl, ?_⟩
        simp only [eBin, eVar, eTup, lCons, lNil, List.getElem?_cons_succ, List.getElem?_cons_zero, List.set_cons_succ, List.set_cons_zero, Option.bind_some, Option.map_some, tup1]
        rw [dAdd_tupI _ _ (by simp; omega)]
        rfl
      refine ⟨_, hs3, ?_, rfl, .dat (tupI f), rfl⟩
      have hc2 := comp_eq (js := [5]) (hs := hs3) rfl (rng1_eq (f := eVar 1) (Γ := [.dat (tupI S), .dat (.int s), .dat (.lst ((conts pre).map tupI)), .own (.lst ((p.flatMap (ext1 s)).map tupI)), .dat (tupI f), .dead]) (hs := hs3) (n := s) rfl (by omega) (by omega)) (by simp; omega) cm
      rw [ext_eq hc2 rfl (by rw [List.length_map, List.length_map]; omega)]
      simp [List.flatMap_append]
    obtain ⟨Γ2, hs4, e4, rfl, j5, rfl⟩ := inner
    rw [seq_nx e4]
    exact ⟨[.dat (tupI S), .dat (.int s), .dat (.lst (((conts pre).flatMap (ext1 s)).map tupI)), .dat (.lst (((conts pre).flatMap (ext1 s)).map tupI)), j5, .dead], hs4, by simp [sG, frzE, frzD, sAsg, eVar], rfl, _, _, _, by rw [conts_snoc]⟩
  obtain ⟨Γ2, hs4, e4, rfl, j1, j3, j4, rfl⟩ := loop
  rw [seq_nx e4]
  exact ret (by simp [eVar])
end Dl
namespace Dl
open PySem PySem.Spec PyProof.Rows L2
section
variable {a b : SDn} {t t' : BDn} {f g f' : EDn} {l : LDn} {Γ : Env} {hs : HS} {i j : Nat} {d : D} {o o' : D → D → Option D} {u : D → Option D} {v : List D → Option D} {G : Fn}
@[simp] theorem x_seq : sSeq a b Γ hs = (a Γ hs).bind fun r => match r.1 with
  | .nx Γ' => b Γ' r.2
  | q => some (q, r.2) := rfl
@[simp] theorem x_if : sIf t a b Γ hs = (t Γ hs).bind fun r => if r.1 = true then a Γ r.2 else b Γ r.2 := rfl
@[simp] theorem x_asg : sAsg i f Γ hs = (f Γ hs).map fun r => (.nx (Γ.set i (.dat r.1)), r.2) := rfl
@[simp] theorem x_ret : sRet f Γ hs = (f Γ hs).map fun r => (.ret r.1, r.2) := rfl
@[simp] theorem x_next : sNext Γ hs = some (.nx Γ, hs) := rfl
@[simp] theorem x_par : sPar i j f g Γ hs = (f Γ hs).bind fun r1 => (g Γ r1.2).map fun r2 => (.nx ((Γ.set i (.dat r1.1)).set j (.dat r2.1)), r2.2) := rfl
@[simp] theorem x_and : bAnd t t' Γ hs = (t Γ hs).bind fun r => if r.1 = true then t' Γ r.2 else some (false, r.2) := rfl
@[simp] theorem x_or : bOr t t' Γ hs = (t Γ hs).bind fun r => if r.1 = true then some (true, r.2) else t' Γ r.2 := rfl
@[simp] theorem x_not : bNot t Γ hs = (t Γ hs).map fun r => (!r.1, r.2) := rfl
@[simp] theorem x_bof : bOf f Γ hs = (f Γ hs).bind fun r => match r.1 with
  | .bl b => some (b, r.2)
  | _ => none := rfl
@[simp] theorem x_eb : eB t Γ hs = (t Γ hs).map fun r => (.bl r.1, r.2) := rfl
@[simp] theorem x_bin : eBin o f g Γ hs = (f Γ hs).bind fun r1 => (g Γ r1.2).bind fun r2 => (o r1.1 r2.1).map fun d => (d, r2.2) := rfl
@[simp] theorem x_un : eUn u f Γ hs = (f Γ hs).bind fun r1 => (u r1.1).map fun d => (d, r1.2) := rfl
@[simp] theorem x_var : eVar i Γ hs = match Γ[i]? with
  | some (.dat d) => some (d, hs)
  | _ => none := rfl
@[simp] theorem x_c : eC d Γ hs = some (d, hs) := rfl
@[simp] theorem x_fn : eFn v l Γ hs = (l Γ hs).bind fun r => (v r.1).map fun d => (d, r.2) := rfl
@[simp] theorem x_cons : lCons f l Γ hs = (f Γ hs).bind fun r1 => (l Γ r1.2).map fun r2 => (r1.1 :: r2.1, r2.2) := rfl
@[simp] theorem x_nil : lNil Γ hs = some ([], hs) := rfl
@[simp] theorem x_tup : eTup l Γ hs = (l Γ hs).map fun r => (.tup r.1, r.2) := rfl
@[simp] theorem x_lst : eLst l Γ hs = (l Γ hs).map fun r => (.lst r.1, r.2) := rfl
@[simp] theorem x_eif : eIf t f g Γ hs = (t Γ hs).bind fun r => if r.1 = true then f Γ r.2 else g Γ r.2 := rfl
@[simp] theorem x_call : eCall G l Γ hs = (l Γ hs).bind fun r => G r.1 r.2 := rfl
@[simp] theorem x_chain : eChain o o' f g f' Γ hs = (f Γ hs).bind fun ra => (g Γ ra.2).bind fun rb => (o ra.1 rb.1).bind fun z => match z with
  | .bl true => (f' Γ rb.2).bind fun rc => (o' rb.1 rc.1).map fun w => (w, rc.2)
  | .bl false => some (.bl false, rb.2)
  | _ => none := rfl
end
/-- what may be asked of its type -/
def askD : D → Bool
  | .non | .bl _ | .int _ | .str _ | .tup _ | .ptup _ | .lst _ | .dic _ _ | .obj _ _ => true
  | _ => false
def isI : D → Bool
  | .int _ => true
  | _ => false
def isT : D → Bool
  | .tup _ | .ptup _ => true
  | _ => false
theorem ev_is_integer {c : Cf} {hs : HS} {x : D} (h : askD x = true) : G_is_integer c [x] hs = some (.bl (isI x), hs) := by
  refine fn_ret rfl ?_
  unfold dn_is_integer
  cases x <;> first | (cases h; done) | simp [dIsi, tyN, isiTy, isI]
theorem ev_is_pair {c : Cf} {hs : HS} {x y : D} : G_is_pair c [.tup [x, y]] hs = some (.bl true, hs) := by
  refine fn_ret rfl ?_
  unfold dn_is_pair
  simp [dIsi, tyN, isiTy, dLen, dEqX_int]
theorem ev_within {c : Cf} {hs : HS} {x : D} {a b : Int} (h : askD x = true) : G_is_within c [x, .int a, .int b] hs = some (.bl (match x with | .int i => decide (a ≤ i) && decide (i ≤ b) | _ => false), hs) := by
  refine fn_ret rfl ?_
  unfold dn_is_within
  have e := ev_is_integer (c := c) (hs := hs) h
  cases x <;> first | (cases h; done) | skip
  all_goals try (simp [e, isI, dLe]; done)
  rename_i i
  by_cases z : a ≤ i <;> simp [e, isI, dLe, z]
/-! ### divisors -/
theorem ev_div_loop {hs : HS} : ∀ (n m : Nat), ∃ k, whileN k (bOf (eBin dGt (eVar 1) (eC (.int 0)))) (sPar 0 1 (eVar 1) (eBin dMod (eVar 0) (eVar 1))) [.dat (.int m), .dat (.int n)] hs = some (.nx [.dat (.int (Nat.gcd m n : Nat)), .dat (.int 0)], hs) := by
  intro n
  induction n using Nat.strongRecOn with
  | ind n ih =>
    intro m
    by_cases hn : n = 0
    · subst hn
      exact ⟨1, by simp [whileN, dGt]⟩
    · obtain ⟨k, hk⟩ := ih (m % n) (Nat.mod_lt _ (Nat.pos_of_ne_zero hn)) n
      refine ⟨k + 1, ?_⟩
      have hp : 0 < (n : Int) := by omega
      rw [whileN]
      have e : Nat.gcd n (m % n) = Nat.gcd m n := by rw [Nat.gcd_comm m n, Nat.gcd_rec n m, Nat.gcd_comm]
      rw [e] at hk
      have em : ((m : Int) % (n : Int)) = ((m % n : Nat) : Int) := by simp
      have hpn : 0 < n := Nat.pos_of_ne_zero hn
      simp [dGt, hpn, dMod_int hp]
      rw [em]
      simpa using hk
theorem ev_divisor {c : Cf} {hs : HS} (m n : Nat) : G_divisor c [.int m, .int n] hs = some (.int (Nat.gcd m n : Nat), hs) := by
  refine fn_ret rfl ?_
  unfold dn_divisor
  obtain ⟨k, hk⟩ := ev_div_loop (hs := hs) n m
  show sSeq _ _ [.dat (.int m), .dat (.int n)] hs = _
  rw [seq_nx (sWhile_of (n := k) hk)]
  rfl
theorem abs_eq (i : Int) : dAbs [.int i] = some (.int (i.natAbs : Nat)) := by
  have : (if i < 0 then -i else i) = ((i.natAbs : Nat) : Int) := by split <;> omega
  show some (D.int (if i < 0 then -i else i)) = _
  rw [this]
theorem ev_lowest {c : Cf} {hs : HS} (a b : Int) (hb : 0 < b) (hz : b < (2 : Int) ^ 8000) : G_lowest c [.int a, .int b] hs = some (.tup [.int (a / (Int.gcd a b : Int)), .int (b / (Int.gcd a b : Int))], hs) := by
  refine fn_ret rfl ?_
  unfold dn_lowest
  obtain ⟨n, rfl⟩ : ∃ n : Nat, b = n := ⟨b.toNat, by omega⟩
  have e := ev_divisor (c := c) (hs := hs) a.natAbs n
  have eg : Nat.gcd a.natAbs n = Int.gcd a n := rfl
  rw [eg] at e
  have gp : 0 < Int.gcd a n := Int.gcd_pos_of_ne_zero_right _ (by omega)
  have gl : (Int.gcd a n : Int) ≤ n := by
    have : Int.gcd a n ≤ n := Nat.le_of_dvd (by omega) (by simpa using Int.gcd_dvd_natAbs_right a (n : Int))
    omega
  have dv : divOk (Int.gcd a n : Int) := div_ok 8000 (by omega) (Int.lt_of_le_of_lt gl hz) (by omega)
  simp [abs_eq, e, dDiv_int dv]
/-- a fraction, made lowest -/
def low (a b : Int) : Int × Int := (a / (Int.gcd a b : Int), b / (Int.gcd a b : Int))
def frD (q : Int × Int) : D := .tup [.int q.1, .int q.2]
theorem ev_low {c : Cf} {hs : HS} (a b : Int) (hb : 0 < b) (hz : b < (2 : Int) ^ 8000) : G_lowest c [.int a, .int b] hs = some (frD (low a b), hs) := ev_lowest a b hb hz
/-! ### the law's own lowest -/
theorem ev_low_loop {hs : HS} {x y : Sl} : ∀ (n m : Nat), ∃ k, whileN k (bOf (eBin dGt (eVar 3) (eC (.int 0)))) (sPar 2 3 (eVar 3) (eBin dMod (eFn dInt (lCons (eVar 2) lNil)) (eVar 3))) [x, y, .dat (.int m), .dat (.int n)] hs = some (.nx [x, y, .dat (.int (Nat.gcd m n : Nat)), .dat (.int 0)], hs) := by
  intro n
  induction n using Nat.strongRecOn with
  | ind n ih =>
    intro m
    by_cases hn : n = 0
    · subst hn
      exact ⟨1, by simp [whileN, dGt]⟩
    · obtain ⟨k, hk⟩ := ih (m % n) (Nat.mod_lt _ (Nat.pos_of_ne_zero hn)) n
      refine ⟨k + 1, ?_⟩
      have hp : 0 < (n : Int) := by omega
      rw [whileN]
      have e : Nat.gcd n (m % n) = Nat.gcd m n := by rw [Nat.gcd_comm m n, Nat.gcd_rec n m, Nat.gcd_comm]
      rw [e] at hk
      have em : ((m : Int) % (n : Int)) = ((m % n : Nat) : Int) := by simp
      have hpn : 0 < n := Nat.pos_of_ne_zero hn
      simp [dGt, hpn, dMod_int hp, dInt]
      rw [em]
      simpa using hk
theorem ev_law_low {c : Cf} {hs : HS} (a b : Int) (ha : 0 ≤ a) (hb : 0 < b) (hz : b < (2 : Int) ^ 8000) : G_law_low c [.int a, .int b] hs = some (frD (low a b), hs) := by
  refine fn_ret rfl ?_
  unfold dn_law_low
  obtain ⟨n, rfl⟩ : ∃ n : Nat, b = n := ⟨b.toNat, by omega⟩
  obtain ⟨m, rfl⟩ : ∃ m : Nat, a = m := ⟨a.toNat, by omega⟩
  obtain ⟨k, hk⟩ := ev_low_loop (hs := hs) (x := .dat (.int m)) (y := .dat (.int n)) n m
  have gp : 0 < Nat.gcd m n := Nat.gcd_pos_of_pos_right _ (by omega)
  have gl : ((Nat.gcd m n : Nat) : Int) ≤ n := by
    have : Nat.gcd m n ≤ n := Nat.le_of_dvd (by omega) (Nat.gcd_dvd_right m n)
    omega
  have dv : divOk ((Nat.gcd m n : Nat) : Int) := div_ok 8000 (by omega) (Int.lt_of_le_of_lt gl hz) (by omega)
  show sSeq _ _ [.dat (.int m), .dat (.int n), .dead, .dead] hs = _
  rw [seq_nx (Γ' := [.dat (.int m), .dat (.int n), .dat (.int m), .dat (.int n)]) (hs' := hs) (by simp)]
  rw [seq_nx (sWhile_of (n := k) hk)]
  simp [dDiv_int dv, frD, low, Int.gcd]
end Dl
/-! Fractions. -/
namespace Dl
open PySem PySem.Spec PyProof.Rows L2
theorem gcd_pos {a b : Int} (hb : 0 < b) : 0 < (Int.gcd a b : Int) := by
  have : 0 < Int.gcd a b := Int.gcd_pos_of_ne_zero_right _ (by omega)
  omega
theorem low_den {a b : Int} (hb : 0 < b) : 0 < (low a b).2 := by
  have g := gcd_pos (a := a) hb
  have hle : (Int.gcd a b : Int) ≤ b := Int.le_of_dvd hb (Int.gcd_dvd_right a b)
  show 0 < b / (Int.gcd a b : Int)
  exact Int.ediv_pos_of_pos_of_dvd hb (Int.le_of_lt g) (Int.gcd_dvd_right a b)
theorem low_den_le {a b : Int} (hb : 0 < b) : (low a b).2 ≤ b := Int.ediv_le_self _ (Int.le_of_lt hb)
theorem low_num {a b : Int} (ha : 0 < a) (hb : 0 < b) : 0 < (low a b).1 := Int.ediv_pos_of_pos_of_dvd ha (Int.le_of_lt (gcd_pos hb)) (Int.gcd_dvd_left a b)
theorem low_num_le {a b : Int} (ha : 0 ≤ a) : (low a b).1 ≤ a := Int.ediv_le_self _ ha
theorem low_cross (a : Int) {b : Int} (hb : 0 < b) : a * (low a b).2 = (low a b).1 * b := by
  have g := gcd_pos (a := a) hb
  have h1 : (low a b).1 * (Int.gcd a b : Int) = a := Int.ediv_mul_cancel (Int.gcd_dvd_left a b)
  have h2 : (low a b).2 * (Int.gcd a b : Int) = b := Int.ediv_mul_cancel (Int.gcd_dvd_right a b)
  have : a * (low a b).2 = (low a b).1 * (Int.gcd a b : Int) * (low a b).2 := by rw [h1]
  rw [this, Int.mul_assoc, Int.mul_comm (Int.gcd a b : Int), h2]
theorem low_scale {k : Int} (hk : 0 < k) (a b : Int) : low (k * a) (k * b) = low a b := by
  unfold low
  have e : (Int.gcd (k * a) (k * b) : Int) = k * (Int.gcd a b : Int) := by
    rw [Int.gcd_mul_left]
    have : (k.natAbs : Int) = k := by omega
    rw [Int.natCast_mul, this]
  rw [e, Int.mul_ediv_mul_of_pos _ _ hk, Int.mul_ediv_mul_of_pos _ _ hk]
theorem low_of_cross {a b x d : Int} (hb : 0 < b) (hd : 0 < d) (h : a * d = x * b) : low a b = low x d := by
  rw [← low_scale hd a b, ← low_scale hb x d, Int.mul_comm d a, h, Int.mul_comm x b, Int.mul_comm d b]
theorem low_cross_of {a b x d : Int} (hb : 0 < b) (hd : 0 < d) (h : low a b = low x d) : a * d = x * b := by
  have e1 := low_cross a hb
  have e2 := low_cross x hd
  rw [← h] at e2
  have p := low_den (a := a) hb
  generalize (low a b).2 = q at *
  generalize (low a b).1 = n at *
  have : a * d * q = x * b * q := by
    calc a * d * q = (a * q) * d := by rw [Int.mul_assoc, Int.mul_comm d q, ← Int.mul_assoc]
      _ = n * b * d := by rw [e1]
      _ = (n * d) * b := by rw [Int.mul_assoc, Int.mul_comm b d, ← Int.mul_assoc]
      _ = x * q * b := by rw [e2]
      _ = x * b * q := by rw [Int.mul_assoc, Int.mul_comm q b, ← Int.mul_assoc]
  exact Int.eq_of_mul_eq_mul_right (by omega) this
theorem low_coprime (a : Int) {b : Int} (hb : 0 < b) : Int.gcd (low a b).1 (low a b).2 = 1 := by
  have g := gcd_pos (a := a) hb
  have h1 : (Int.gcd a b : Int) * (low a b).1 = a := Int.mul_ediv_cancel' (Int.gcd_dvd_left a b)
  have h2 : (Int.gcd a b : Int) * (low a b).2 = b := Int.mul_ediv_cancel' (Int.gcd_dvd_right a b)
  have e := Int.gcd_mul_left (Int.gcd a b : Int) (low a b).1 (low a b).2
  rw [h1, h2] at e
  have e3 : (Int.gcd a b : Int).natAbs = Int.gcd a b := by simp
  rw [e3] at e
  have g' : 0 < Int.gcd a b := by omega
  exact (Nat.eq_of_mul_eq_mul_left g' (by rw [Nat.mul_one]; exact e)).symm
/-- the shares' quotient -/
theorem over_low {a b T : Int} (hT : 0 < T) (ha : 0 < a) (hb : 0 < b) : low ((low a T).1 * (low b T).2) ((low a T).2 * (low b T).1) = low a b := by
  have c1 := low_cross a hT
  have c2 := low_cross b hT
  have p1 := low_den (a := a) hT
  have p2 := low_num hb hT
  have p3 := low_den (a := b) hT
  refine low_of_cross (Int.mul_pos p1 p2) hb ?_
  generalize (low a T).1 = n1 at *
  generalize (low a T).2 = d1 at *
  generalize (low b T).1 = n2 at *
  generalize (low b T).2 = d2 at *
  have : (n1 * d2 * b) * T = (a * (d1 * n2)) * T := by
    calc (n1 * d2 * b) * T = (n1 * T) * (b * d2) := by
          rw [Int.mul_assoc n1 d2 b, Int.mul_assoc, Int.mul_comm (d2 * b) T, ← Int.mul_assoc, Int.mul_comm d2 b]
      _ = (a * d1) * (n2 * T) := by rw [← c1, c2]
      _ = (a * (d1 * n2)) * T := by rw [Int.mul_assoc, Int.mul_assoc, Int.mul_assoc]
  exact Int.eq_of_mul_eq_mul_right (by omega) this
/-- the shares' sum -/
theorem plus_low {a b T : Int} (hT : 0 < T) : low ((low a T).1 * (low b T).2 + (low b T).1 * (low a T).2) ((low a T).2 * (low b T).2) = low (a + b) T := by
  have c1 := low_cross a hT
  have c2 := low_cross b hT
  have p1 := low_den (a := a) hT
  have p3 := low_den (a := b) hT
  refine low_of_cross (Int.mul_pos p1 p3) hT ?_
  generalize (low a T).1 = n1 at *
  generalize (low a T).2 = d1 at *
  generalize (low b T).1 = n2 at *
  generalize (low b T).2 = d2 at *
  calc (n1 * d2 + n2 * d1) * T = (n1 * T) * d2 + (n2 * T) * d1 := by
        rw [Int.add_mul, Int.mul_assoc, Int.mul_comm d2 T, ← Int.mul_assoc, Int.mul_assoc n2, Int.mul_comm d1 T, ← Int.mul_assoc]
    _ = (a * d1) * d2 + (b * d2) * d1 := by rw [← c1, ← c2]
    _ = (a + b) * (d1 * d2) := by rw [Int.add_mul, Int.mul_assoc, Int.mul_assoc b, Int.mul_comm d2 d1]
theorem low_one {T : Int} (hT : 0 < T) : low T T = (1, 1) := by
  have e := low_of_cross (a := T) (b := T) (x := 1) (d := 1) hT (by omega) (by omega)
  rw [e]
  decide
theorem low_zero {T : Int} (hT : 0 < T) : low 0 T = (0, 1) := by
  have e := low_of_cross (a := 0) (b := T) (x := 0) (d := 1) hT (by omega) (by omega)
  rw [e]
  decide
end Dl
namespace Dl
open PySem PySem.Spec PyProof.Rows L2
theorem two_pow_mul (b d : Nat) {i j : Int} (hi : 0 ≤ i) (hj : 0 ≤ j) (h1 : i < (2 : Int) ^ b) (h2 : j < (2 : Int) ^ d) : i * j < (2 : Int) ^ (b + d) := by
  rw [Int.pow_add]
  have pd : 0 < (2 : Int) ^ d := Int.pow_pos (by omega)
  exact Int.lt_of_le_of_lt (Int.mul_le_mul_of_nonneg_left (Int.le_of_lt h2) hi) (Int.mul_lt_mul_of_pos_right h1 pd)
/-- parts of moderate size -/
structure FrOk (q : Int × Int) : Prop where
  n0 : 0 ≤ q.1
  n1 : q.1 < (2 : Int) ^ 2000
  d0 : 0 < q.2
  d1 : q.2 < (2 : Int) ^ 2000
theorem ix0 (a b : Int) : dIx (.tup [.int a, .int b]) (.int 0) = some (.int a) := rfl
theorem ix1 (a b : Int) : dIx (.tup [.int a, .int b]) (.int 1) = some (.int b) := rfl
theorem ev_over {c : Cf} {hs : HS} {p q : Int × Int} (hp : FrOk p) (hq : FrOk q) (h : 0 < q.1) : G_over c [frD p, frD q] hs = some (frD (low (p.1 * q.2) (p.2 * q.1)), hs) := by
  refine fn_ret rfl ?_
  unfold dn_over
  have m1 : mulOk p.1 q.2 := mul_ok 2000 2000 hp.n0 (Int.le_of_lt hq.d0) hp.n1 hq.d1 (by omega)
  have m2 : mulOk p.2 q.1 := mul_ok 2000 2000 (Int.le_of_lt hp.d0) hq.n0 hp.d1 hq.n1 (by omega)
  have b0 : 0 < p.2 * q.1 := Int.mul_pos hp.d0 h
  have b1 : p.2 * q.1 < (2 : Int) ^ 8000 := Int.lt_trans (two_pow_mul 2000 2000 (Int.le_of_lt hp.d0) hq.n0 hp.d1 hq.n1) (by decide +kernel)
  have e := ev_low (c := c) (hs := hs) (p.1 * q.2) (p.2 * q.1) b0 b1
  simp [frD, ix0, ix1, dMul_int m1, dMul_int m2] at e ⊢
  simp [e]
theorem ev_plus {c : Cf} {hs : HS} {p q : Int × Int} (hp : FrOk p) (hq : FrOk q) : G_plus c [frD p, frD q] hs = some (frD (low (p.1 * q.2 + q.1 * p.2) (p.2 * q.2)), hs) := by
  refine fn_ret rfl ?_
  unfold dn_plus
  have m1 : mulOk p.1 q.2 := mul_ok 2000 2000 hp.n0 (Int.le_of_lt hq.d0) hp.n1 hq.d1 (by omega)
  have m2 : mulOk q.1 p.2 := mul_ok 2000 2000 hq.n0 (Int.le_of_lt hp.d0) hq.n1 hp.d1 (by omega)
  have m3 : mulOk p.2 q.2 := mul_ok 2000 2000 (Int.le_of_lt hp.d0) (Int.le_of_lt hq.d0) hp.d1 hq.d1 (by omega)
  have b0 : 0 < p.2 * q.2 := Int.mul_pos hp.d0 hq.d0
  have b1 : p.2 * q.2 < (2 : Int) ^ 8000 := Int.lt_trans (two_pow_mul 2000 2000 (Int.le_of_lt hp.d0) (Int.le_of_lt hq.d0) hp.d1 hq.d1) (by decide +kernel)
  have e := ev_low (c := c) (hs := hs) (p.1 * q.2 + q.1 * p.2) (p.2 * q.2) b0 b1
  simp [frD, ix0, ix1, dMul_int m1, dMul_int m2, dMul_int m3, dAdd_int] at e ⊢
  simp [e]
theorem FrOk.low {a T : Int} (ha : 0 ≤ a) (hT : 0 < T) (h1 : a < (2 : Int) ^ 2000) (h2 : T < (2 : Int) ^ 2000) : FrOk (low a T) := by
  refine ⟨Int.ediv_nonneg ha (Int.le_of_lt (gcd_pos hT)), Int.lt_of_le_of_lt (low_num_le ha) h1, low_den hT, Int.lt_of_le_of_lt (low_den_le hT) h2⟩
theorem ev_is_fraction {c : Cf} {hs : HS} {a T : Int} (hT : 0 < T) : G_is_fraction c [frD (low a T)] hs = some (.bl true, hs) := by
  refine fn_ret rfl ?_
  unfold dn_is_fraction
  have hd := low_den (a := a) hT
  have hg := low_coprime a hT
  generalize low a T = q at *
  obtain ⟨x, y⟩ := q
  simp only at hd hg
  obtain ⟨n, rfl⟩ : ∃ n : Nat, y = n := ⟨y.toNat, by omega⟩
  have e1 := ev_is_pair (c := c) (hs := hs) (x := .int x) (y := .int n)
  have e2 := ev_is_integer (c := c) (hs := hs) (x := .int x) rfl
  have e3 := ev_is_integer (c := c) (hs := hs) (x := .int n) rfl
  have e4 := ev_divisor (c := c) (hs := hs) x.natAbs n
  have e5 : Nat.gcd x.natAbs n = 1 := hg
  rw [e5] at e4
  have hp : 0 < n := by omega
  simp [frD, e1, e2, e3, isI, ix0, ix1, abs_eq, e4, dGt, hp, dEqX_int]
end Dl
namespace Dl
open PySem PySem.Spec PyProof.Rows L2
theorem sum_append (a b : List Int) : (a ++ b).sum = a.sum + b.sum := by
  induction a with
  | nil => simp
  | cons x a ih => simp [ih, Int.add_assoc]
theorem sum_nonneg : ∀ {l : List Int}, (∀ a ∈ l, 0 ≤ a) → 0 ≤ l.sum
  | [], _ => by simp
  | x :: l, h => by
    have := sum_nonneg (l := l) (fun a ha => h a (List.mem_cons_of_mem _ ha))
    have := h x List.mem_cons_self
    simp; omega
theorem ev_add_all {c : Cf} {hs : HS} {T : Int} {xs : List Int} (hT : 0 < T) (hT2 : T < (2 : Int) ^ 2000) (h0 : ∀ a ∈ xs, 0 ≤ a) (h1 : xs.sum < (2 : Int) ^ 2000) : G_add_all c [.lst (xs.map fun a => frD (low a T))] hs = some (frD (low xs.sum T), hs) := by
  refine fn_ret rfl ?_
  unfold dn_add_all
  show sSeq _ _ [.dat (.lst (xs.map fun a => frD (low a T))), .dead, .dead] hs = _
  have e0 : tupI [0, 1] = frD (low 0 T) := by rw [low_zero hT]; rfl
  rw [seq_nx (Γ' := [.dat (.lst (xs.map fun a => frD (low a T))), .dead, .dat (frD (low 0 T))]) (hs' := hs) (by simp [e0])]
  have loop := for_inv (step := stepD (gd1 1) (sAsg 2 (eCall (G_plus c) (lCons (eVar 2) (lCons (eVar 1) lNil))))) (fun a : Int => frD (low a T)) (fun pre Γ h => h = hs ∧ ∃ j, Γ = [.dat (.lst (xs.map fun a => frD (low a T))), j, .dat (frD (low pre.sum T))]) xs (Γ := [.dat (.lst (xs.map fun a => frD (low a T))), .dead, .dat (frD (low 0 T))]) (hs := hs) ⟨rfl, _, rfl⟩ (by
    rintro pre a post Γ hs1 hx ⟨rfl, j, rfl⟩
    have hp : 0 ≤ pre.sum := sum_nonneg fun z hz => h0 z (by rw [hx]; simp [hz])
    have hq : 0 ≤ post.sum := sum_nonneg fun z hz => h0 z (by rw [hx]; simp [hz])
    have ha : 0 ≤ a := h0 a (by rw [hx]; simp)
    have hs : xs.sum = pre.sum + (a + post.sum) := by rw [hx, sum_append]; simp
    have e := ev_plus (c := c) (hs := hs1) (FrOk.low hp hT (by omega) hT2) (FrOk.low ha hT (by omega) hT2)
    rw [plus_low hT] at e
    exact ⟨[.dat (.lst (xs.map fun a => frD (low a T))), .dat (frD (low a T)), .dat (frD (low (pre.sum + a) T))], hs1, by simp [stepD, gd1, e], rfl, .dat (frD (low a T)), by rw [sum_append]; simp⟩)
  obtain ⟨Γ', hs', e, rfl, j, rfl⟩ := loop
  rw [seq_nx (Γ' := [.dat (.lst (xs.map fun a => frD (low a T))), j, .dat (frD (low xs.sum T))]) (hs' := hs') (by rw [for_eq (items := xs.map fun a => frD (low a T)) (hs1 := hs') (by simp [lItemsL])]; exact e)]
  simp
end Dl
/-! Places: what the class asks of a key. -/
namespace Dl
open PySem PySem.Spec PyProof.Rows L2
def lotOk (n : Int) : Int → List Int → Bool
  | _, [] => true
  | last, z :: zs => decide (last + 1 ≤ z) && decide (z ≤ n - 1) && lotOk n z zs
theorem ev_lot_loop {c : Cf} {hs : HS} {x : Sl} {n : Int} : ∀ (p : List Int) (last : Int) (j : Sl), lotOk n last p = true → ∃ Γ', forD (stepD (gd1 3) (sSeq (sIf (bNot (bOf (eCall (G_is_within c) (lCons (eVar 3) (lCons (eBin dAdd (eVar 2) (eC (.int 1))) (lCons (eBin dSub (eVar 1) (eC (.int 1))) lNil))))))
    (sRet (eC (.bl false)))
    sNext)
    (sAsg 2 (eVar 3)))) (p.map D.int) [x, .dat (.int n), .dat (.int last), j] hs = some (.nx Γ', hs)
  | [], last, j, _ => ⟨_, rfl⟩
  | z :: zs, last, j, h => by
    have h' : (last + 1 ≤ z ∧ z ≤ n - 1) ∧ lotOk n z zs = true := by simpa [lotOk] using h
    obtain ⟨Γ', e⟩ := ev_lot_loop (c := c) (hs := hs) (x := x) (n := n) zs z (.dat (.int z)) h'.2
    refine ⟨Γ', ?_⟩
    have w := ev_within (c := c) (hs := hs) (x := .int z) (a := last + 1) (b := n - 1) rfl
    have w2 : G_is_within c [.int z, .int (last + 1), .int (n - 1)] hs = some (.bl true, hs) := by rw [w]; simp [h'.1.1, h'.1.2]
    rw [List.map_cons, forD]
    simp only [stepD, gd1, Option.bind_some]
    simp [dAdd_int, dSub_int, w2]
    exact e
theorem ev_is_lot {c : Cf} {hs : HS} {p : List Int} {n : Int} (h : lotOk n (-1) p = true) : G_is_lot c [tupI p, .int n] hs = some (.bl true, hs) := by
  refine fn_ret rfl ?_
  unfold dn_is_lot
  show sSeq _ _ [.dat (tupI p), .dat (.int n), .dead, .dead] hs = _
  obtain ⟨Γ', e⟩ := ev_lot_loop (c := c) (hs := hs) (x := .dat (tupI p)) p (-1) .dead h
  rw [seq_nx (Γ' := [.dat (tupI p), .dat (.int n), .dead, .dead]) (hs' := hs) (by simp [tupI, dIsi, tyN, isiTy])]
  rw [seq_nx (Γ' := [.dat (tupI p), .dat (.int n), .dat (.int (-1)), .dead]) (hs' := hs) (by simp [dNeg])]
  rw [seq_nx (Γ' := Γ') (hs' := hs) (by rw [for_eq (items := p.map D.int) (hs1 := hs) (by simp [lItemsT, tupI, tupOf])]; exact e)]
  simp
/-- worths within the sizes -/
def inS : List Int → List Int → Bool
  | [], [] => true
  | w :: ws, s :: ss => decide (0 ≤ w) && decide (w ≤ s - 1) && inS ws ss
  | _, _ => false
theorem inS_len : ∀ {ws ss : List Int}, inS ws ss = true → ws.length = ss.length
  | [], [], _ => rfl
  | w :: ws, s :: ss, h => by
    have h' : (0 ≤ w ∧ w ≤ s - 1) ∧ inS ws ss = true := by simpa [inS] using h
    simp [inS_len h'.2]
  | [], _ :: _, h => by cases h
  | _ :: _, [], h => by cases h
theorem zipD_ints : ∀ (ws ss : List Int), zipD (ws.map D.int) (ss.map D.int) = (ws.zip ss).map fun q => D.tup [.int q.1, .int q.2]
  | [], _ => by simp [zipD]
  | _ :: _, [] => by simp [zipD]
  | w :: ws, s :: ss => by simp [zipD, zipD_ints ws ss]
theorem inS_zip : ∀ {ws ss : List Int}, inS ws ss = true → ∀ q ∈ ws.zip ss, 0 ≤ q.1 ∧ q.1 ≤ q.2 - 1
  | [], [], _, q, h => by simp at h
  | w :: ws, s :: ss, h, q, hq => by
    have h' : (0 ≤ w ∧ w ≤ s - 1) ∧ inS ws ss = true := by simpa [inS] using h
    rcases List.mem_cons.mp hq with rfl | hq
    · exact h'.1
    · exact inS_zip h'.2 q hq
  | [], _ :: _, h, _, _ => by cases h
  | _ :: _, [], h, _, _ => by cases h
theorem blsD_map {α : Type} (f : α → Bool) : ∀ l : List α, blsD (l.map fun x => D.bl (f x)) = some (l.map f)
  | [] => rfl
  | x :: l => by simp [blsD, blsD_map f l]
theorem ev_is_content {c : Cf} {hs : HS} {ws ss : List Int} (h : inS ws ss = true) (hl : ws.length ≤ 1000) : G_is_content c [tupI ss, tupI ws] hs = some (.bl true, hs) := by
  refine fn_ret rfl ?_
  unfold dn_is_content
  show sSeq _ _ [.dat (tupI ss), .dat (tupI ws), .dead, .dead] hs = _
  have le := inS_len h
  rw [seq_nx (Γ' := [.dat (tupI ss), .dat (tupI ws), .dead, .dead]) (hs' := hs) (by simp [tupI, dIsi, tyN, isiTy, dLen, dNeU_int, le])]
  have cm : compD (gd2 3 2) bYes (eCall (G_is_within c) (lCons (eVar 3) (lCons (eC (.int 0)) (lCons (eBin dSub (eVar 2) (eC (.int 1))) lNil)))) [.dat (tupI ss), .dat (tupI ws), .dead, .dead] ((ws.zip ss).map fun q => D.tup [.int q.1, .int q.2]) hs = some (((ws.zip ss).map fun q => true).map D.bl, hs) := by
    refine comp_map (fun q : Int × Int => D.tup [.int q.1, .int q.2]) D.bl (fun _ => true) (ws.zip ss) fun q hq => ⟨[.dat (tupI ss), .dat (tupI ws), .dat (.int q.2), .dat (.int q.1)], rfl, ?_⟩
    have z := inS_zip h q hq
    have w := ev_within (c := c) (hs := hs) (x := .int q.1) (a := 0) (b := q.2 - 1) rfl
    have w2 : G_is_within c [.int q.1, .int 0, .int (q.2 - 1)] hs = some (.bl true, hs) := by rw [w]; simp [z.1, z.2]
    simp [dSub_int, w2]
  have cq := comp_eq (src := lZipT (eVar 1) (eVar 0)) (js := [3, 2]) (hs := hs) (hs1 := hs) rfl (by simp [lZipT, tupI, zipD_ints]) (by simp; omega) cm
  simp only [x_ret, x_fn, x_cons, x_nil, cq, Option.bind_some, Option.map_some, dAll]
  have : ((ws.zip ss).map fun q => true).map D.bl = (ws.zip ss).map fun x => D.bl ((fun _ => true) x) := by simp
  rw [this, blsD_map]
  simp
/-- keys -/
def keyD (k : List Int × List Int) : D := .tup [tupI k.1, tupI k.2]
theorem ev_is_place {c : Cf} {hs : HS} {ss : List Int} {k : List Int × List Int} (h1 : inS k.1 ss = true) (h2 : lotOk ss.length (-1) k.2 = true) (hl : ss.length ≤ 1000) : G_is_place c [tupI ss, keyD k] hs = some (.bl true, hs) := by
  refine fn_ret rfl ?_
  unfold dn_is_place
  have e1 := ev_is_pair (c := c) (hs := hs) (x := tupI k.1) (y := tupI k.2)
  have e2 := ev_is_content (c := c) (hs := hs) h1 (by rw [inS_len h1]; exact hl)
  have e3 := ev_is_lot (c := c) (hs := hs) h2
  have i0 : dIx (keyD k) (.int 0) = some (tupI k.1) := rfl
  have i1 : dIx (keyD k) (.int 1) = some (tupI k.2) := rfl
  have ll : dLen [tupI ss] = some (.int ss.length) := by simp [tupI, dLen]
  show (sRet _) [.dat (tupI ss), .dat (keyD k)] hs = _
  have e1' : G_is_pair c [keyD k] hs = some (.bl true, hs) := e1
  simp [e1', e2, e3, i0, i1, ll]
end Dl
/-! first_wrong, is_sizes, first_bad. -/
namespace Dl
open PySem PySem.Spec PyProof.Rows L2
abbrev KY : Type := List Int × List Int
def rowD (w : KY → Int) (T : Int) (k : KY) : D := .tup [keyD k, frD (low (w k) T)]
def lastD : Option KY → D
  | none => .non
  | some k => keyD k
/-- each key behind the one before it -/
def upK : Option KY → List KY → Prop
  | _, [] => True
  | none, k :: ks => upK (some k) ks
  | some l, k :: ks => dLtU (keyD l) (keyD k) = some (.bl true) ∧ upK (some k) ks
theorem ev_fw_loop {c : Cf} {hs : HS} {f0 c0 : Addr} {x0 : V} {S : List Int} {w : KY → Int} {T : Int} {x : Sl} (hT : 0 < T) (hS : S.length ≤ 1000) : ∀ (ks : List KY) (i : Nat) (last : Option KY) (j3 j4 : Sl), (∀ k ∈ ks, inS k.1 S = true ∧ lotOk S.length (-1) k.2 = true ∧ 0 < w k) → upK last ks → ∃ Γ', forD (stepD (gd2 3 4)
    (sSeq (sIf (bOr (bNot (bOf (eCall (G_is_pair c) (lCons (eVar 4) lNil)))) (bOr (bNot (bOf (eLam f0 c0 x0 1 (G_is_place c) (lCons (eBin dIx (eVar 4) (eC (.int 0))) lNil)))) (bOr (bNot (bOf (eCall (G_is_fraction c) (lCons (eBin dIx (eVar 4) (eC (.int 1))) lNil)))) (bOf (eBin dLe (eBin dIx (eBin dIx (eVar 4) (eC (.int 1))) (eC (.int 0))) (eC (.int 0)))))))
    (sRet (eVar 3))
    sNext)
    (sSeq (sIf (bAnd (bOf (eBin dIsNot (eVar 2) (eC .non))) (bNot (bOf (eBin dLtU (eVar 2) (eBin dIx (eVar 4) (eC (.int 0)))))))
    (sRet (eVar 3))
    sNext)
    (sAsg 2 (eBin dIx (eVar 4) (eC (.int 0))))))) (enumD i (ks.map (rowD w T))) [x, .dat (.lam f0 c0 x0 (tupI S)), .dat (lastD last), j3, j4] hs = some (.nx Γ', hs)
  | [], _, _, _, _, _, _ => ⟨_, rfl⟩
  | k :: ks, i, last, j3, j4, h, hu => by
    obtain ⟨h1, h2, h3⟩ := h k List.mem_cons_self
    have hu2 : upK (some k) ks := by cases last with | none => exact hu | some l => exact hu.2
    obtain ⟨Γ', e⟩ := ev_fw_loop (c := c) (hs := hs) (f0 := f0) (c0 := c0) (x0 := x0) (S := S) (w := w) (T := T) (x := x) hT hS ks (i + 1) (some k) (.dat (.int i)) (.dat (rowD w T k)) (fun q hq => h q (List.mem_cons_of_mem _ hq)) hu2
    refine ⟨Γ', ?_⟩
    have e1 : G_is_pair c [rowD w T k] hs = some (.bl true, hs) := ev_is_pair
    have e2 : G_is_place c [tupI S, keyD k] hs = some (.bl true, hs) := ev_is_place h1 h2 hS
    have e3 : G_is_fraction c [frD (low (w k) T)] hs = some (.bl true, hs) := ev_is_fraction hT
    have i0 : dIx (rowD w T k) (.int 0) = some (keyD k) := rfl
    have i1 : dIx (rowD w T k) (.int 1) = some (frD (low (w k) T)) := rfl
    have i2 : dIx (frD (low (w k) T)) (.int 0) = some (.int (low (w k) T).1) := rfl
    have hp : ¬ (low (w k) T).1 ≤ 0 := by have := low_num h3 hT; omega
    rw [List.map_cons, enumD, forD]
    simp only [stepD, gd2, Option.bind_some]
    cases last with
    | none =>
      simp [e1, e2, e3, i0, i1, i2, eLam, dLe, hp, lastD, dIsNot]
      exact e
    | some l =>
      have hl := hu.1
      have n1 : dIsNot (keyD l) .non = some (.bl true) := rfl
      simp [e1, e2, e3, i0, i1, i2, eLam, dLe, hp, lastD, n1, hl]
      exact e
theorem ev_first_wrong {c : Cf} {hs : HS} {f0 c0 : Addr} {x0 : V} {S : List Int} {w : KY → Int} {T : Int} {ks : List KY} (hT : 0 < T) (hS : S.length ≤ 1000) (h : ∀ k ∈ ks, inS k.1 S = true ∧ lotOk S.length (-1) k.2 = true ∧ 0 < w k) (hu : upK none ks) : G_first_wrong c f0 c0 x0 [.ptup (ks.map (rowD w T)), .lam f0 c0 x0 (tupI S)] hs = some (.non, hs) := by
  refine fn_ret rfl ?_
  unfold dn_first_wrong
  show sSeq _ _ [.dat (.ptup (ks.map (rowD w T))), .dat (.lam f0 c0 x0 (tupI S)), .dead, .dead, .dead] hs = _
  obtain ⟨Γ', e⟩ := ev_fw_loop (c := c) (hs := hs) (f0 := f0) (c0 := c0) (x0 := x0) (S := S) (w := w) (T := T) (x := .dat (.ptup (ks.map (rowD w T)))) hT hS ks 0 none .dead .dead h hu
  rw [seq_nx (Γ' := [.dat (.ptup (ks.map (rowD w T))), .dat (.lam f0 c0 x0 (tupI S)), .dat .non, .dead, .dead]) (hs' := hs) (by simp)]
  rw [seq_nx (Γ' := Γ') (hs' := hs) (by rw [for_eq (items := enumD 0 (ks.map (rowD w T))) (hs1 := hs) (by simp [lEnumT, tupOf])]; exact e)]
  simp
end Dl
namespace Dl
open PySem PySem.Spec PyProof.Rows L2
def prodI : List Int → Int
  | [] => 1
  | s :: ss => s * prodI ss
theorem ev_prod_loop {hs : HS} {x : Sl} : ∀ (ss : List Int) (a : Int) (j : Sl), 0 < a → a * 4 ^ ss.length ≤ 1000 → (∀ s ∈ ss, 2 ≤ s ∧ s ≤ 4) → ∃ j', forD (stepD (gd1 1) (sMulA 2 (eVar 1))) (ss.map D.int) [x, j, .dat (.int a)] hs = some (.nx [x, j', .dat (.int (a * prodI ss))], hs)
  | [], a, j, _, _, _ => ⟨j, by simp [forD, prodI]⟩
  | s :: ss, a, j, h0, h1, h => by
    have hs2 := h s List.mem_cons_self
    have p4 : 0 < (4 : Int) ^ ss.length := Int.pow_pos (by omega)
    have hle : a * s * 4 ^ ss.length ≤ a * 4 ^ (ss.length + 1) := by
      rw [Int.pow_succ, Int.mul_assoc, Int.mul_comm ((4 : Int) ^ ss.length) 4]
      exact Int.mul_le_mul_of_nonneg_left (Int.mul_le_mul_of_nonneg_right hs2.2 (Int.le_of_lt p4)) (Int.le_of_lt h0)
    have ha : a ≤ 1000 := by
      have : a * 1 ≤ a * 4 ^ (ss.length + 1) := Int.mul_le_mul_of_nonneg_left (Int.pow_pos (by omega)) (Int.le_of_lt h0)
      simp at h1
      omega
    obtain ⟨j', e⟩ := ev_prod_loop (hs := hs) (x := x) ss (a * s) (.dat (.int s)) (Int.mul_pos h0 (by omega)) (by simp at h1; omega) (fun q hq => h q (List.mem_cons_of_mem _ hq))
    refine ⟨j', ?_⟩
    have ha0 : -1000 ≤ a := by omega
    rw [List.map_cons, forD]
    simp [stepD, gd1, sMulA, ha, ha0]
    rw [e, prodI, Int.mul_assoc]
/-- sizes as the class wants them -/
structure SzW (S : List Int) : Prop where
  sz : Sz S
  ne : S ≠ []
  pr : prodI S ≤ 64
theorem ev_is_sizes {c : Cf} {hs : HS} {S : List Int} (h : SzW S) : G_is_sizes c [tupI S] hs = some (.bl true, hs) := by
  refine fn_ret rfl ?_
  unfold dn_is_sizes
  show sSeq _ _ [.dat (tupI S), .dead, .dead] hs = _
  have h1 : 1 ≤ S.length := List.length_pos_iff.mpr h.ne
  have h4 := h.sz.len
  have l1 : dLen [tupI S] = some (.int S.length) := by simp [tupI, dLen]
  have c1 : dLe (.int 1) (.int S.length) = some (.bl true) := by simp [dLe]; omega
  have c2 : dLe (.int S.length) (.int 4) = some (.bl true) := by simp [dLe]; omega
  have t1 : dIsi c [tupI S, .ty "tuple"] = some (.bl true) := by simp [tupI, dIsi, tyN, isiTy]
  rw [seq_nx (Γ' := [.dat (tupI S), .dead, .dead]) (hs' := hs) (by simp [t1, l1, c1, c2])]
  have cm : compD (gd1 1) bYes (eCall (G_is_within c) (lCons (eVar 1) (lCons (eC (.int 2)) (lCons (eC (.int (4))) lNil)))) [.dat (tupI S), .dead, .dead] (S.map D.int) hs = some ((S.map fun _ => true).map D.bl, hs) := by
    refine comp_map D.int D.bl (fun _ => true) S fun s hs2 => ⟨[.dat (tupI S), .dat (.int s), .dead], rfl, ?_⟩
    have z := h.sz.pos s hs2
    have w := ev_within (c := c) (hs := hs) (x := .int s) (a := 2) (b := 4) rfl
    have w2 : G_is_within c [.int s, .int 2, .int 4] hs = some (.bl true, hs) := by rw [w]; simp [z.1, z.2]
    simp [w2]
  have cq := comp_eq (src := lItemsT (eVar 0)) (js := [1]) (hs := hs) (hs1 := hs) rfl (by simp [lItemsT, tupI, tupOf]) (by simp; omega) cm
  have ab : dAll [.lst ((S.map fun _ => true).map D.bl)] = some (.bl true) := by
    have : (S.map fun _ => true).map D.bl = S.map fun x => D.bl ((fun _ => true) x) := by simp
    rw [this, dAll, blsD_map]
    simp
  rw [seq_nx (Γ' := [.dat (tupI S), .dead, .dead]) (hs' := hs) (by
    simp only [x_if, x_not, x_bof, x_fn, x_cons, x_nil, cq, Option.bind_some, Option.map_some, ab]
    rfl)]
  rw [seq_nx (Γ' := [.dat (tupI S), .dead, .dat (.int 1)]) (hs' := hs) (by simp)]
  have p4 : (1 : Int) * 4 ^ S.length ≤ 1000 := by
    have e : (4 : Int) ^ S.length = ((4 ^ S.length : Nat) : Int) := by simp
    have this : 4 ^ S.length ≤ 4 ^ 4 := Nat.pow_le_pow_right (by omega) h4
    have e4 : (4 : Nat) ^ 4 = 256 := by decide
    rw [e]
    omega
  obtain ⟨j', e⟩ := ev_prod_loop (hs := hs) (x := .dat (tupI S)) S 1 .dead (by omega) p4 h.sz.pos
  rw [seq_nx (Γ' := [.dat (tupI S), j', .dat (.int (1 * prodI S))]) (hs' := hs) (by rw [for_eq (items := S.map D.int) (hs1 := hs) (by simp [lItemsT, tupI, tupOf])]; exact e)]
  have hp := h.pr
  simp [dLe, hp]
end Dl
namespace Dl
open PySem PySem.Spec PyProof.Rows L2
theorem eq_fr (p q : Int × Int) : dEqX (frD p) (frD q) = some (.bl (decide (p = q))) := by
  have o : ∀ p : Int × Int, ok (frD p) = true := fun p => by simp [frD, ok, pOk, pOks, toPy, toPys, SeqAt.shaped, PyData.canLay0, PyData.canLayAll0, PyData.depth, PyData.depthAll]
  have t : ∀ d : D, tupOf (frD p) = some [.int p.1, .int p.2] := fun _ => rfl
  have e : dEqX (frD p) (frD q) = dEq (frD p) (frD q) := rfl
  rw [e, dEq, if_pos ⟨o p, o q⟩]
  obtain ⟨a, b⟩ := p
  obtain ⟨a', b'⟩ := q
  by_cases h1 : a = a' <;> by_cases h2 : b = b' <;> simp [frD, toPy, toPys, PyData.eqv, PyData.eqvAll, h1, h2]
/-- the rows are in order -/
structure RowsOk (S : List Int) (w : KY → Int) (T : Int) (ks : List KY) : Prop where
  sz : SzW S
  key : ∀ k ∈ ks, inS k.1 S = true ∧ lotOk S.length (-1) k.2 = true ∧ 0 < w k
  up : upK none ks
  sum : (ks.map w).sum = T
  T0 : 0 < T
  T1 : T < (2 : Int) ^ 2000
  few : ks.length ≤ 100000
theorem ev_first_bad {c : Cf} {hs : HS} {f0 c0 : Addr} {x0 : V} {S : List Int} {w : KY → Int} {T : Int} {ks : List KY} (h : RowsOk S w T ks) : G_first_bad c f0 c0 x0 [tupI S, .ptup (ks.map (rowD w T)), .lam f0 c0 x0 (tupI S)] hs = some (.non, hs) := by
  refine fn_ret rfl ?_
  unfold dn_first_bad
  show sSeq _ _ [.dat (tupI S), .dat (.ptup (ks.map (rowD w T))), .dat (.lam f0 c0 x0 (tupI S)), .dead, .dead, .dead] hs = _
  have e1 : G_is_sizes c [tupI S] hs = some (.bl true, hs) := ev_is_sizes h.sz
  rw [seq_nx (Γ' := [.dat (tupI S), .dat (.ptup (ks.map (rowD w T))), .dat (.lam f0 c0 x0 (tupI S)), .dead, .dead, .dead]) (hs' := hs) (by simp [e1])]
  rw [seq_nx (Γ' := [.dat (tupI S), .dat (.ptup (ks.map (rowD w T))), .dat (.lam f0 c0 x0 (tupI S)), .dead, .dead, .dead]) (hs' := hs) (by simp [dIsi, tyN, isiTy])]
  have e2 : G_first_wrong c f0 c0 x0 [.ptup (ks.map (rowD w T)), .lam f0 c0 x0 (tupI S)] hs = some (.non, hs) := ev_first_wrong h.T0 (by have := h.sz.sz.len; omega) h.key h.up
  rw [seq_nx (Γ' := [.dat (tupI S), .dat (.ptup (ks.map (rowD w T))), .dat (.lam f0 c0 x0 (tupI S)), .dat .non, .dead, .dead]) (hs' := hs) (by simp [e2])]
  rw [seq_nx (Γ' := [.dat (tupI S), .dat (.ptup (ks.map (rowD w T))), .dat (.lam f0 c0 x0 (tupI S)), .dat .non, .dead, .dead]) (hs' := hs) (by simp [dIsNot])]
  have cm : compD (gd2 4 5) bYes (eVar 5) [.dat (tupI S), .dat (.ptup (ks.map (rowD w T))), .dat (.lam f0 c0 x0 (tupI S)), .dat .non, .dead, .dead] (ks.map (rowD w T)) hs = some ((ks.map w).map (fun a => frD (low a T)), hs) := by
    refine comp_map (rowD w T) (fun a => frD (low a T)) w ks fun k hk => ⟨[.dat (tupI S), .dat (.ptup (ks.map (rowD w T))), .dat (.lam f0 c0 x0 (tupI S)), .dat .non, .dat (keyD k), .dat (frD (low (w k) T))], rfl, by simp⟩
  have cq := comp_eq (src := lItemsT (eVar 1)) (js := [4, 5]) (hs := hs) (hs1 := hs) rfl (by simp [lItemsT, tupOf]) (by rw [List.length_map]; exact h.few) cm
  have e3 : G_add_all c [.lst ((ks.map w).map (fun a => frD (low a T)))] hs = some (frD (low T T), hs) := by
    have := ev_add_all (c := c) (hs := hs) (T := T) (xs := ks.map w) h.T0 h.T1 (fun a ha => by
      obtain ⟨k, hk, rfl⟩ := List.mem_map.mp ha
      have := (h.key k hk).2.2
      omega) (by rw [h.sum]; exact h.T1)
    rwa [h.sum] at this
  rw [low_one h.T0] at e3
  have e4 : dEqX (frD (1, 1)) (tupI [1, 1]) = some (.bl true) := eq_fr (1, 1) (1, 1)
  simp only [x_ret, x_eif, x_bof, x_bin, x_call, x_cons, x_nil, cq, Option.bind_some, Option.map_some, e3, x_c, e4]
  rfl
end Dl
namespace Dl
open PySem PySem.Spec PyProof.Rows L2
def rgD (s : Int) : D := .lst ((List.range s.toNat).map fun (i : Nat) => D.int (i : Int))
theorem ev_tuples_of {c : Cf} {hs : HS} {S : List Int} (h : Sz S) : G_tuples_of c [.lst (S.map rgD)] hs = some (.lst ((conts S).map tupI), hs) := by
  refine fn_ret rfl ?_
  show dn_tuples_of c [.dat (.lst (S.map rgD)), .dead, .dead, .dead, .dead, .dead] hs = _
  unfold dn_tuples_of
  rw [seq_nx (Γ' := [.dat (.lst (S.map rgD)), .dat (.lst [.tup []]), .dead, .dead, .dead, .dead]) (hs' := hs) (by simp)]
  have loop : ∃ Γ' hs', sFor (lItemsL (eVar 0)) (gd1 2)
    (sSeq (sOwn 3 (.lst []))
    (sSeq (sFor (lItemsL (eVar 1)) (gd1 4)
    (sExt 3 (eComp (lItemsL (eVar 2)) [5] (gd1 5) bYes (eBin dAdd (eVar 4) (eTup (lCons (eVar 5) lNil))))))
    (sG (frzE 3) (sAsg 1 (eVar 3))))) [.dat (.lst (S.map rgD)), .dat (.lst [.tup []]), .dead, .dead, .dead, .dead] hs = some (.nx Γ', hs') ∧ (hs' = hs ∧ ∃ j1 j3 j4, Γ' = [.dat (.lst (S.map rgD)), .dat (.lst ((conts S).map tupI)), j1, j3, j4, .dead]) := by
    rw [for_eq (items := S.map rgD) (hs1 := hs) (by simp [lItemsL])]
    refine for_inv rgD (fun pre Γ h => h = hs ∧ ∃ j1 j3 j4, Γ = [.dat (.lst (S.map rgD)), .dat (.lst ((conts pre).map tupI)), j1, j3, j4, .dead]) S ⟨rfl, _, _, _, rfl⟩ ?_
    rintro pre s post Γ hs1 hS ⟨rfl, j1, j3, j4, rfl⟩
    have hsz : Sz (pre ++ [s]) := by rw [hS] at h; exact Sz.sub (T := post) (by simpa using h)
    have hs2 := hsz.pos s (by simp)
    simp only [stepD, gd1, Option.bind_some, List.set_cons_succ, List.set_cons_zero]
    rw [seq_nx (Γ' := [.dat (.lst (S.map rgD)), .dat (.lst ((conts pre).map tupI)), .dat (rgD s), .own (.lst []), j4, .dead]) (hs' := hs1) (by simp [sOwn])]
    have inner : ∃ Γ' hs', sFor (lItemsL (eVar 1)) (gd1 4)
        (sExt 3 (eComp (lItemsL (eVar 2)) [5] (gd1 5) bYes (eBin dAdd (eVar 4) (eTup (lCons (eVar 5) lNil))))) [.dat (.lst (S.map rgD)), .dat (.lst ((conts pre).map tupI)), .dat (rgD s), .own (.lst []), j4, .dead] hs1 = some (.nx Γ', hs') ∧ (hs' = hs1 ∧ ∃ j4, Γ' = [.dat (.lst (S.map rgD)), .dat (.lst ((conts pre).map tupI)), .dat (rgD s), .own (.lst (((conts pre).flatMap (ext1 s)).map tupI)), j4, .dead]) := by
      rw [for_eq (items := (conts pre).map tupI) (hs1 := hs1) (by simp [lItemsL])]
      refine for_inv tupI (fun p Γ h => h = hs1 ∧ ∃ j4, Γ = [.dat (.lst (S.map rgD)), .dat (.lst ((conts pre).map tupI)), .dat (rgD s), .own (.lst ((p.flatMap (ext1 s)).map tupI)), j4, .dead]) (conts pre) ⟨rfl, _, rfl⟩ ?_
      rintro p f q Γ hs3 hC ⟨rfl, j4, rfl⟩
      simp only [stepD, gd1, Option.bind_some, List.set_cons_succ, List.set_cons_zero]
      have hfl : f.length ≤ 4 := by
        have := conts_len (ss := pre) (f := f) (by rw [hC]; simp)
        have := hsz.len
        rw [List.length_append] at this
        omega
      have hcard := hsz.card
      rw [conts_snoc, flat_card] at hcard
      have hpl : (p.flatMap (ext1 s)).length + (ext1 s f).length ≤ 256 := by
        have : (p.flatMap (ext1 s)).length + (ext1 s f).length = (p.length + 1) * s.toNat := by rw [flat_card, ext1_card, Nat.add_mul]; omega
        rw [this]
        refine Nat.le_trans (Nat.mul_le_mul_right _ ?_) hcard
        rw [hC]; simp
      have cm : compD (gd1 5) bYes (eBin dAdd (eVar 4) (eTup (lCons (eVar 5) lNil))) [.dat (.lst (S.map rgD)), .dat (.lst ((conts pre).map tupI)), .dat (rgD s), .own (.lst ((p.flatMap (ext1 s)).map tupI)), .dat (tupI f), .dead] ((List.range s.toNat).map (fun (i : Nat) => D.int (i : Int))) hs3 = some ((ext1 s f).map tupI, hs3) := by
        refine comp_map (fun (i : Nat) => D.int (i : Int)) tupI (fun (w : Nat) => f ++ [(w : Int)]) (List.range s.toNat) fun w _ => ⟨_, rfl, ?_⟩
        simp only [eBin, eVar, eTup, lCons, lNil, List.getElem?_cons_succ, List.getElem?_cons_zero, List.set_cons_succ, List.set_cons_zero, Option.bind_some, Option.map_some, tup1]
        rw [dAdd_tupI _ _ (by simp; omega)]
        rfl
      refine ⟨_, hs3, ?_, rfl, .dat (tupI f), rfl⟩
      have hc2 := comp_eq (src := lItemsL (eVar 2)) (js := [5]) (hs := hs3) (hs1 := hs3) (Γ := [.dat (.lst (S.map rgD)), .dat (.lst ((conts pre).map tupI)), .dat (rgD s), .own (.lst ((p.flatMap (ext1 s)).map tupI)), .dat (tupI f), .dead]) rfl (by simp [lItemsL, rgD]) (by simp; omega) cm
      rw [ext_eq hc2 rfl (by rw [List.length_map, List.length_map]; omega)]
      simp [List.flatMap_append]
    obtain ⟨Γ2, hs4, e4, rfl, j5, rfl⟩ := inner
    rw [seq_nx e4]
    exact ⟨[.dat (.lst (S.map rgD)), .dat (.lst (((conts pre).flatMap (ext1 s)).map tupI)), .dat (rgD s), .dat (.lst (((conts pre).flatMap (ext1 s)).map tupI)), j5, .dead], hs4, by simp [sG, frzE, frzD], rfl, _, _, _, by rw [conts_snoc]⟩
  obtain ⟨Γ2, hs4, e4, rfl, j1, j3, j4, rfl⟩ := loop
  rw [seq_nx e4]
  exact ret (by simp)
theorem ev_contents_of {c : Cf} {hs : HS} {S : List Int} (h : Sz S) : G_contents_of c [tupI S] hs = some (.lst ((conts S).map tupI), hs) := by
  refine fn_ret rfl ?_
  unfold dn_contents_of
  show sRet _ [.dat (tupI S), .dead] hs = _
  have cm : compD (gd1 1) bYes (eLstRg (eVar 1)) [.dat (tupI S), .dead] (S.map D.int) hs = some ((S.map id).map rgD, hs) := by
    refine comp_map D.int rgD id S fun s hs2 => ⟨[.dat (tupI S), .dat (.int s)], rfl, ?_⟩
    have z := h.pos s hs2
    have z1 : -1000 ≤ s := by omega
    have z2 : s ≤ 1000 := by omega
    simp [eLstRg, z1, z2, rgD, rngI]
  have cq := comp_eq (src := lItemsT (eVar 0)) (js := [1]) (hs := hs) (hs1 := hs) rfl (by simp [lItemsT, tupI, tupOf]) (by have := h.len; simp; omega) cm
  rw [List.map_id] at cq
  simp only [x_ret, x_call, x_cons, x_nil, cq, Option.bind_some, Option.map_some, ev_tuples_of h]
end Dl
/-! Dicts by keys. -/
namespace Dl
open PySem PySem.Spec PyProof.Rows L2
theorem toKeys_ints : ∀ p : List Int, toKeys (p.map D.int) = p.map NestedKey.num
  | [] => by simp [toKeys]
  | x :: p => by simp [toKeys, toKey, toKeys_ints p]
theorem toKey_tupI (p : List Int) : toKey (tupI p) = .tup (p.map NestedKey.num) := by
  unfold tupI
  rw [toKey, toKeys_ints]
theorem map_num_inj {p q : List Int} (h : p.map NestedKey.num = q.map NestedKey.num) : p = q := by
  induction p generalizing q with
  | nil => cases q with
    | nil => rfl
    | cons _ _ => simp at h
  | cons x p ih => cases q with
    | nil => simp at h
    | cons y q =>
      simp at h
      rw [h.1, ih (by simpa using h.2)]
theorem tupK_inj {p q : List Int} (h : toKey (tupI p) = toKey (tupI q)) : p = q := by
  rw [toKey_tupI, toKey_tupI] at h
  injection h with h
  exact map_num_inj h
theorem keyD_inj {p q : KY} (h : toKey (keyD p) = toKey (keyD q)) : p = q := by
  unfold keyD at h
  rw [toKey, toKey] at h
  injection h with h
  simp only [toKeys] at h
  injection h with h1 h2
  injection h2 with h2
  obtain ⟨a, b⟩ := p
  obtain ⟨a', b'⟩ := q
  rw [show a = a' from tupK_inj h1, show b = b' from tupK_inj h2]
theorem kOk_tupI (n : Nat) (p : List Int) : kOk (n + 1) (tupI p) = true := by
  unfold tupI
  rw [kOk]
  simp only [List.all_map, List.all_eq_true]
  intro x _
  cases n <;> rfl
theorem kOk_keyD (k : KY) : kOk 8 (keyD k) = true := by
  unfold keyD
  rw [kOk]
  simp [kOk_tupI]
section
variable {α : Type} [DecidableEq α] {enc : α → D}
theorem lookD_map (inj : ∀ a b, toKey (enc a) = toKey (enc b) → a = b) (f : α → D) (a : α) : ∀ ks : List α, lookD (ks.map fun k => (enc k, f k)) (enc a) = if a ∈ ks then some (f a) else none
  | [] => by simp [lookD]
  | k :: ks => by
    have ih := lookD_map inj f a ks
    unfold lookD at ih ⊢
    rw [List.map_cons, List.find?_cons]
    by_cases h : k = a
    · subst h
      simp
    · have hne : ¬ toKey (enc k) = toKey (enc a) := fun e => h (inj _ _ e)
      simp only [hne, decide_false]
      rw [ih]
      have : a ≠ k := fun e => h e.symm
      simp [this]
theorem putD_map (inj : ∀ a b, toKey (enc a) = toKey (enc b) → a = b) (f : α → D) (a : α) (d : D) (ks : List α) : putD (ks.map fun k => (enc k, f k)) (enc a) d = (if a ∈ ks then ks else ks ++ [a]).map fun k => (enc k, if k = a then d else f k) := by
  have hany : (ks.map fun k => (enc k, f k)).any (fun p => decide (toKey p.1 = toKey (enc a))) = decide (a ∈ ks) := by
    induction ks with
    | nil => simp
    | cons k ks ih =>
      rw [List.map_cons, List.any_cons, ih]
      by_cases h : k = a
      · subst h; simp
      · have hne : ¬ toKey (enc k) = toKey (enc a) := fun e => h (inj _ _ e)
        have : a ≠ k := fun e => h e.symm
        simp [hne, this]
  have eqk : ∀ k, (toKey (enc k) = toKey (enc a)) ↔ k = a := fun k => ⟨inj _ _, fun e => by rw [e]⟩
  unfold putD
  rw [hany]
  by_cases h : a ∈ ks
  · simp only [h, decide_true, if_true, List.map_map]
    refine List.map_congr_left fun k _ => ?_
    simp only [Function.comp, eqk]
    split <;> simp
  · simp only [h, decide_false, Bool.false_eq_true, if_false, List.map_append, List.map_cons, List.map_nil, if_true]
    congr 1
    refine List.map_congr_left fun k hk => ?_
    have : k ≠ a := fun e => h (e ▸ hk)
    simp [this]
end
end Dl
namespace Dl
open PySem PySem.Spec PyProof.Rows L2
theorem alike_ints : ∀ a b : List Int, PySem.W.alikeAll (toPys (a.map D.int)) (toPys (b.map D.int)) = true
  | [], b => by cases b <;> simp [toPys, PySem.W.alikeAll]
  | x :: a, [] => by simp [toPys, PySem.W.alikeAll]
  | x :: a, y :: b => by simp [toPys, toPy, PySem.W.alikeAll, PySem.W.alike, alike_ints a b]
theorem alike_tupI (a b : List Int) : PySem.W.alike (toPy (tupI a)) (toPy (tupI b)) = true := by
  unfold tupI
  rw [toPy, toPy, PySem.W.alike]
  exact alike_ints a b
theorem pOks_ints : ∀ a : List Int, pOks (a.map D.int) = true
  | [] => by simp [pOks]
  | x :: a => by simp [pOks, pOk, pOks_ints a]
theorem pOk_tupI (a : List Int) : pOk (tupI a) = true := by
  unfold tupI
  rw [pOk, pOks_ints]
theorem depth_ints : ∀ a : List Int, PyData.depthAll (toPys (a.map D.int)) = 0
  | [] => by simp [toPys, PyData.depthAll]
  | x :: a => by simp [toPys, toPy, PyData.depthAll, PyData.depth, depth_ints a]
theorem depth_tupI (a : List Int) : (toPy (tupI a)).depth = 1 := by
  unfold tupI
  rw [toPy, PyData.depth, depth_ints]
theorem sortOk_tupI {ps : List (List Int)} (h : ps.length ≤ 10000) : sortOk (ps.map tupI) = true := by
  unfold sortOk
  simp only [Bool.and_eq_true, List.all_eq_true, decide_eq_true_eq, Bool.or_eq_true, List.mem_map, forall_exists_index, and_imp, forall_apply_eq_imp_iff₂, List.length_map]
  refine ⟨⟨⟨⟨fun p _ => pOk_tupI p, fun p _ q _ => alike_tupI p q⟩, .inl fun p _ => rfl⟩, fun p _ => by rw [depth_tupI]; decide⟩, ?_⟩
  omega
end Dl
/-! uneven_pattern, what the class asks. -/
namespace Dl
open PySem PySem.Spec PyProof.Rows L2
def cnt (pre : List KY) (p : List Int) : Int := ((pre.filter fun k => decide (k.2 = p)).length : Nat)
theorem cnt_snoc (pre : List KY) (k : KY) (p : List Int) : cnt (pre ++ [k]) p = if p = k.2 then cnt pre p + 1 else cnt pre p := by
  unfold cnt
  rw [List.filter_append]
  by_cases h : k.2 = p
  · subst h; simp
  · have : ¬ p = k.2 := fun e => h e.symm
    simp [h, this]
theorem ev_uneven {c : Cf} {hs : HS} {S : List Int} {w : KY → Int} {T : Int} {ks : List KY} (hS : Sz S) (hl : ks.length ≤ 10000) (hc : ∀ p, (∃ k ∈ ks, k.2 = p) → ((conts S).length : Int) ≤ cnt ks p) : G_uneven_pattern c [tupI S, .ptup (ks.map (rowD w T))] hs = some (.non, hs) := by
  refine fn_ret rfl ?_
  unfold dn_uneven_pattern
  show sSeq _ _ [.dat (tupI S), .dat (.ptup (ks.map (rowD w T))), .dead, .dead, .dead, .dead] hs = _
  rw [seq_nx (Γ' := [.dat (tupI S), .dat (.ptup (ks.map (rowD w T))), .own (.dic false []), .dead, .dead, .dead]) (hs' := hs) (by simp [sOwn])]
  have loop : ∃ Γ' hs', sFor (lItemsT (eVar 1)) (gd2 5 4)
    (sPut 2 (eBin dIx (eVar 5) (eC (.int 1))) (eBin dAdd (ePeek 2 (eGet (eVar 2) (eBin dIx (eVar 5) (eC (.int 1))) (eC (.int 0)))) (eC (.int 1)))) [.dat (tupI S), .dat (.ptup (ks.map (rowD w T))), .own (.dic false []), .dead, .dead, .dead] hs = some (.nx Γ', hs') ∧ (hs' = hs ∧ ∃ (ps : List (List Int)) (j4 j5 : Sl), (∀ p, p ∈ ps ↔ ∃ k ∈ ks, k.2 = p) ∧ ps.length ≤ ks.length ∧ Γ' = [.dat (tupI S), .dat (.ptup (ks.map (rowD w T))), .own (.dic false (ps.map fun p => (tupI p, .int (cnt ks p)))), .dead, j4, j5]) := by
    rw [for_eq (items := ks.map (rowD w T)) (hs1 := hs) (by simp [lItemsT, tupOf])]
    refine for_inv (rowD w T) (fun pre Γ h => h = hs ∧ ∃ (ps : List (List Int)) (j4 j5 : Sl), (∀ p, p ∈ ps ↔ ∃ k ∈ pre, k.2 = p) ∧ ps.length ≤ pre.length ∧ Γ = [.dat (tupI S), .dat (.ptup (ks.map (rowD w T))), .own (.dic false (ps.map fun p => (tupI p, .int (cnt pre p)))), .dead, j4, j5]) ks ⟨rfl, [], _, _, by simp, by simp, rfl⟩ ?_
    rintro pre k post Γ hs1 hk ⟨rfl, ps, j4, j5, hm, hpl, rfl⟩
    have hlen : pre.length + 1 ≤ 10000 := by
      have := congrArg List.length hk
      simp at this
      omega
    have i1 : dIx (keyD k) (.int 1) = some (tupI k.2) := rfl
    have look := lookD_map (enc := tupI) (fun a b => tupK_inj) (fun p => D.int (cnt pre p)) k.2 ps
    have put := putD_map (enc := tupI) (fun a b => tupK_inj) (fun p => D.int (cnt pre p)) k.2 (.int (cnt pre k.2 + 1)) ps
    have hk8 : kOk 8 (tupI k.2) = true := kOk_tupI 7 _
    have hg : ((lookD (ps.map fun p => (tupI p, D.int (cnt pre p))) (tupI k.2)).getD (.int 0)) = .int (cnt pre k.2) := by
      rw [look]
      by_cases hin : k.2 ∈ ps
      · simp [hin]
      · simp only [hin, if_false, Option.getD_none]
        have : cnt pre k.2 = 0 := by
          unfold cnt
          have : pre.filter (fun q => decide (q.2 = k.2)) = [] := by
            rw [List.filter_eq_nil_iff]
            intro q hq e
            exact hin ((hm _).mpr ⟨q, hq, by simpa using e⟩)
          rw [this]; rfl
        rw [this]
    have hgn : dGetN [.dic false (ps.map fun p => (tupI p, D.int (cnt pre p))), tupI k.2, .int 0] = some (.int (cnt pre k.2)) := by
      unfold dGetN tupI at *
      simp only [hk8, if_true]
      rw [hg]
    have hpl2 : (ps.map fun p => (tupI p, D.int (cnt pre p))).length < 100000 := by rw [List.length_map]; omega
    refine ⟨[.dat (tupI S), .dat (.ptup (ks.map (rowD w T))), .own (.dic false ((if k.2 ∈ ps then ps else ps ++ [k.2]).map fun p => (tupI p, .int (cnt (pre ++ [k]) p)))), .dead, .dat (frD (low (w k) T)), .dat (keyD k)], hs1, ?_, rfl, (if k.2 ∈ ps then ps else ps ++ [k.2]), .dat (frD (low (w k) T)), .dat (keyD k), fun p => ?_, ?_, rfl⟩
    · have peek : ePeek 2 (eGet (eVar 2) (eBin dIx (eVar 5) (eC (.int 1))) (eC (.int 0))) [.dat (tupI S), .dat (.ptup (ks.map (rowD w T))), .own (.dic false (ps.map fun p => (tupI p, .int (cnt pre p)))), .dead, .dat (frD (low (w k) T)), .dat (keyD k)] hs1 = some (.int (cnt pre k.2), hs1) := by
        simp [ePeek, frzE, frzD, eGet, i1, hgn, scalarD]
      have e1 : stepD (gd2 5 4) (sPut 2 (eBin dIx (eVar 5) (eC (.int 1))) (eBin dAdd (ePeek 2 (eGet (eVar 2) (eBin dIx (eVar 5) (eC (.int 1))) (eC (.int 0)))) (eC (.int 1)))) (rowD w T k) [.dat (tupI S), .dat (.ptup (ks.map (rowD w T))), .own (.dic false (ps.map fun p => (tupI p, .int (cnt pre p)))), .dead, j4, j5] hs1 = sPut 2 (eBin dIx (eVar 5) (eC (.int 1))) (eBin dAdd (ePeek 2 (eGet (eVar 2) (eBin dIx (eVar 5) (eC (.int 1))) (eC (.int 0)))) (eC (.int 1))) [.dat (tupI S), .dat (.ptup (ks.map (rowD w T))), .own (.dic false (ps.map fun p => (tupI p, .int (cnt pre p)))), .dead, .dat (frD (low (w k) T)), .dat (keyD k)] hs1 := rfl
      rw [e1]
      unfold sPut
      simp only [x_bin, peek, Option.bind_some, x_c, dAdd_int, Option.map_some, x_var, List.getElem?_cons_succ, List.getElem?_cons_zero, i1]
      have ek : tupI k.2 = .tup (k.2.map D.int) := rfl
      rw [ek] at hk8 put ⊢
      simp only [hk8, true_and]
      rw [if_pos hpl2, put]
      simp only [List.set_cons_succ, List.set_cons_zero]
      have efun : (fun p : List Int => (tupI p, if p = k.2 then D.int (cnt pre k.2 + 1) else D.int (cnt pre p))) = fun p => (tupI p, D.int (cnt (pre ++ [k]) p)) := by
        funext p
        rw [cnt_snoc]
        by_cases hp : p = k.2
        · subst hp; simp
        · simp [hp]
      rw [efun]
      by_cases hin : k.2 ∈ ps <;> simp [hin] <;> rfl
    · by_cases hin : k.2 ∈ ps
      · simp only [hin, if_true]
        rw [hm]
        constructor
        · rintro ⟨q, hq, e⟩; exact ⟨q, by simp [hq], e⟩
        · rintro ⟨q, hq, e⟩
          rcases List.mem_append.mp hq with hq | hq
          · exact ⟨q, hq, e⟩
          · rw [List.mem_singleton.mp hq] at e
            subst e
            exact (hm _).mp hin
      · simp only [hin, if_false, List.mem_append, List.mem_singleton]
        rw [hm]
        constructor
        · rintro (⟨q, hq, e⟩ | e)
          · exact ⟨q, .inl hq, e⟩
          · exact ⟨k, .inr rfl, e.symm⟩
        · rintro ⟨q, hq | hq, e⟩
          · exact .inl ⟨q, hq, e⟩
          · subst hq; exact .inr e.symm
    · split <;> simp <;> omega
  obtain ⟨Γ2, hs4, e4, rfl, ps, j4, j5, hm, hpl, rfl⟩ := loop
  rw [seq_nx e4]
  have hso := sortOk_tupI (ps := ps) (by omega)
  have hsd := sortD_tupI ps
  generalize hq : ps.mergeSort (fun a b => decide (a ≤ b)) = qs at hsd
  have hmem : ∀ p ∈ qs, p ∈ ps := fun p hp => by
    rw [← hq] at hp
    exact (List.mergeSort_perm _ _).mem_iff.mp hp
  have e3 : G_contents_of c [tupI S] hs4 = some (.lst ((conts S).map tupI), hs4) := ev_contents_of hS
  have loop2 := for_inv (step := stepD (gd1 3) (sIf (bOf (eBin dLtU (eBin dIxN (eVar 2) (eVar 3)) (eFn dLen (lCons (eCall (G_contents_of c) (lCons (eVar 0) lNil)) lNil))))
    (sRet (eVar 3))
    sNext)) tupI (fun _ Γ h => h = hs4 ∧ ∃ j3, Γ = [.dat (tupI S), .dat (.ptup (ks.map (rowD w T))), .dat (.dic true (ps.map fun p => (tupI p, .int (cnt ks p)))), j3, j4, j5]) qs (Γ := [.dat (tupI S), .dat (.ptup (ks.map (rowD w T))), .dat (.dic true (ps.map fun p => (tupI p, .int (cnt ks p)))), .dead, j4, j5]) (hs := hs4) ⟨rfl, _, rfl⟩ (by
    rintro pre p post Γ hs1 hqs ⟨rfl, j3, rfl⟩
    have hp : p ∈ ps := hmem p (by rw [hqs]; simp)
    have look := lookD_map (enc := tupI) (fun a b => tupK_inj) (fun p => D.int (cnt ks p)) p ps
    rw [if_pos hp] at look
    have ix : dIxN (.dic true (ps.map fun p => (tupI p, D.int (cnt ks p)))) (tupI p) = some (.int (cnt ks p)) := by
      have hk8 : kOk 8 (tupI p) = true := kOk_tupI 7 _
      unfold dIxN tupI at *
      simp only [hk8, if_true]
      exact look
    have ge := hc p ((hm p).mp hp)
    have nlt : ¬ cnt ks p < ((conts S).length : Int) := by omega
    exact ⟨_, hs1, by simp [stepD, gd1, ix, e3, dLen, dLtU_int, nlt], rfl, .dat (tupI p), rfl⟩)
  obtain ⟨Γ3, hs5, e5, rfl, j3, rfl⟩ := loop2
  rw [seq_nx (Γ' := [.dat (tupI S), .dat (.ptup (ks.map (rowD w T))), .dat (.dic true (ps.map fun p => (tupI p, .int (cnt ks p)))), j3, j4, j5]) (hs' := hs5) (by
    unfold sFrz
    simp only [List.getElem?_cons_succ, List.getElem?_cons_zero, List.set_cons_succ, List.set_cons_zero]
    rw [for_eq (items := qs.map tupI) (hs1 := hs5) (by
      have : (ps.map fun p => (tupI p, D.int (cnt ks p))).map (·.1) = ps.map tupI := by simp
      simp only [lItemsL, x_fn, x_cons, x_nil, x_var, List.getElem?_cons_succ, List.getElem?_cons_zero, Option.bind_some, Option.map_some, dSorted, seqItems, this]
      rw [if_pos hso, hsd]
      rfl)]
    exact e5)]
  simp
end Dl
/-! The whole's words: shares_of, pattern_at, family. -/
namespace Dl
open PySem PySem.Spec PyProof.Rows L2
def whD (S : List Int) (ks : List KY) (w : KY → Int) (T : Int) : D := .obj (tupI S) (.ptup (ks.map (rowD w T)))
theorem ev_init {c : Cf} {hs : HS} {S : List Int} {w : KY → Int} {T : Int} {ks : List KY} (h : RowsOk S w T ks) (hl : ks.length ≤ 10000) (hc : ∀ p, (∃ k ∈ ks, k.2 = p) → ((conts S).length : Int) ≤ cnt ks p) : initG c (tupI S) (.ptup (ks.map (rowD w T))) hs :=
  ⟨fun f0 c0 x0 => ev_first_bad h, ev_uneven h.sz.sz hl hc⟩
theorem mapM_pairs {w : KY → Int} {T : Int} : ∀ ks : List KY, (ks.map (rowD w T)).mapM pairOf = some (ks.map fun k => (keyD k, frD (low (w k) T)))
  | [] => rfl
  | k :: ks => by
    have e : pairOf (rowD w T k) = some (keyD k, frD (low (w k) T)) := by
      unfold rowD keyD pairOf
      have := kOk_keyD k
      unfold keyD at this
      simp [this]
    rw [List.map_cons, List.mapM_cons, e, mapM_pairs ks]
    rfl
theorem fold_put {w : KY → Int} {T : Int} : ∀ (ks pre : List KY), (pre ++ ks).Nodup → (ks.map fun k => (keyD k, frD (low (w k) T))).foldl (fun acc p => putD acc p.1 p.2) (pre.map fun k => (keyD k, frD (low (w k) T))) = (pre ++ ks).map fun k => (keyD k, frD (low (w k) T))
  | [], pre, _ => by simp
  | k :: ks, pre, nd => by
    have nin : k ∉ pre := fun h => by
      have := (List.nodup_append.mp nd).2.2 k h k List.mem_cons_self
      exact this rfl
    rw [List.map_cons, List.foldl_cons]
    have put := putD_map (enc := keyD) (fun a b => keyD_inj) (fun k => frD (low (w k) T)) k (frD (low (w k) T)) pre
    rw [if_neg nin] at put
    have e2 : (fun q : KY => (keyD q, if q = k then frD (low (w k) T) else frD (low (w q) T))) = fun q => (keyD q, frD (low (w q) T)) := by
      funext q
      by_cases h : q = k
      · subst h; simp
      · simp [h]
    rw [e2] at put
    rw [put]
    have := fold_put (w := w) (T := T) ks (pre ++ [k]) (by simpa using nd)
    simpa using this
theorem ev_shares_of {c : Cf} {hs : HS} {S : List Int} {w : KY → Int} {T : Int} {ks : List KY} (nd : ks.Nodup) (hl : ks.length < 100000) : G_shares_of c [whD S ks w T] hs = some (.dic true (ks.map fun k => (keyD k, frD (low (w k) T))), hs) := by
  refine fn_ret rfl ?_
  unfold dn_shares_of
  have f := fold_put (w := w) (T := T) ks [] (by simpa using nd)
  simp only [List.map_nil, List.nil_append] at f
  show sRet _ [.dat (whD S ks w T)] hs = _
  have hl2 : (ks.map (rowD w T)).length < 100000 := by simpa using hl
  simp only [x_ret, x_fn, x_cons, x_nil, eFld, x_var, List.getElem?_cons_zero, whD, Option.bind_some, Option.map_some, dDict, Bool.false_eq_true, if_false]
  rw [if_pos hl2, mapM_pairs]
  simp only [Option.map_some, f]
theorem ev_pattern_at {c : Cf} {hs : HS} {k : KY} : G_pattern_at c [keyD k] hs = some (tupI k.2, hs) := by
  refine fn_ret rfl ?_
  unfold dn_pattern_at
  show sRet _ _ hs = _
  have e1 : G_is_pair c [keyD k] hs = some (.bl true, hs) := ev_is_pair
  have i1 : dIx (keyD k) (.int 1) = some (tupI k.2) := rfl
  have t1 : dIsi c [tupI k.2, .ty "tuple"] = some (.bl true) := by simp [tupI, dIsi, tyN, isiTy]
  simp [e1, i1, t1]
end Dl
namespace Dl
open PySem PySem.Spec PyProof.Rows L2
theorem intsD_ints : ∀ l : List Int, intsD (l.map D.int) = some l
  | [] => rfl
  | x :: l => by simp [intsD, intsD_ints l]
theorem dedup_mem (x : List Int) : ∀ l : List (List Int), x ∈ dedup l ↔ x ∈ l
  | [] => by simp [dedup]
  | y :: l => by
    rw [dedup]
    split
    · rename_i h
      rw [dedup_mem x l, List.mem_cons]
      constructor
      · exact .inr
      · rintro (rfl | h2)
        · exact h
        · exact h2
    · rw [List.mem_cons, List.mem_cons, dedup_mem x l]
def famS (ks : List KY) : List (List Int) := (dedup (ks.map (·.2))).mergeSort (fun a b => decide (a ≤ b))
theorem famS_mem {ks : List KY} {p : List Int} : p ∈ famS ks ↔ ∃ k ∈ ks, k.2 = p := by
  unfold famS
  rw [(List.mergeSort_perm _ _).mem_iff, dedup_mem, List.mem_map]
theorem ev_family {c : Cf} {hs : HS} {S : List Int} {w : KY → Int} {T : Int} {ks : List KY} (hd : (dedup (ks.map (·.2))).length < 63) (hl : ks.length ≤ 10000) : G_family c [whD S ks w T] hs = some (.lst ((famS ks).map tupI), hs) := by
  refine fn_ret rfl ?_
  unfold dn_family
  show sRet _ [.dat (whD S ks w T), .dead, .dead] hs = _
  have cm : compD (gd2 1 2) bYes (eCall (G_pattern_at c) (lCons (eVar 1) lNil)) [.dat (whD S ks w T), .dead, .dead] (ks.map (rowD w T)) hs = some ((ks.map (·.2)).map tupI, hs) := by
    refine comp_map (rowD w T) tupI (fun k : KY => k.2) ks fun k hk => ⟨[.dat (whD S ks w T), .dat (keyD k), .dat (frD (low (w k) T))], rfl, ?_⟩
    have e := ev_pattern_at (c := c) (hs := hs) (k := k)
    simp [e]
  have cq := comp_eq (src := lItemsT (eFld (eVar 0) false)) (js := [1, 2]) (hs := hs) (hs1 := hs) rfl (by simp [lItemsT, eFld, whD, tupOf]) (by rw [List.length_map]; omega) cm
  have ds : dSet [.lst ((ks.map (·.2)).map tupI)] = some (.setD ((dedup (ks.map (·.2))).map tupI)) := by
    unfold dSet
    simp only [tupsD_of, Option.bind_some]
    rw [if_pos ⟨hd, by simp; omega⟩]
  have so : dSortedS [.setD ((dedup (ks.map (·.2))).map tupI)] = some (.lst ((famS ks).map tupI)) := by
    unfold dSortedS
    simp only [tupsD_of, Option.bind_some]
    rw [if_pos (sortOk_tupI (by omega)), sortD_tupI]
    rfl
  simp only [x_ret, x_fn, x_cons, x_nil, cq, Option.bind_some, Option.map_some, ds, so]
end Dl
namespace Dl
open PySem PySem.Spec PyProof.Rows L2
def isort (l : List Int) : List Int := l.mergeSort (fun a b => decide (a ≤ b))
theorem sortD_ints (l : List Int) : sortD (l.map D.int) = (isort l).map D.int := by
  unfold sortD isort
  rw [List.map_mergeSort]
  intro a _ b _
  have : PySem.W.dataLe false toPy (.int a) (.int b) = decide (a ≤ b) := by
    have h := congrFun (congrFun (PySem.W.dataLe_int (fun i : Int => i)) a) b
    exact h
  exact this.symm
theorem sortOk_ints {l : List Int} (h : l.length ≤ 10000) : sortOk (l.map D.int) = true := by
  unfold sortOk
  simp only [Bool.and_eq_true, List.all_eq_true, decide_eq_true_eq, Bool.or_eq_true, List.mem_map, forall_exists_index, and_imp, forall_apply_eq_imp_iff₂, List.length_map]
  refine ⟨⟨⟨⟨fun p _ => by simp [pOk], fun p _ q _ => by simp [toPy, PySem.W.alike]⟩, .inr fun p _ => rfl⟩, fun p _ => by simp [toPy, PyData.depth]⟩, ?_⟩
  omega
theorem ev_sorted_tup {l : List Int} (h : l.length ≤ 10000) : dSorted [tupI l] = some (.lst ((isort l).map D.int)) := by
  unfold dSorted tupI
  simp only [seqItems, Option.bind_some]
  rw [if_pos (sortOk_ints h), sortD_ints]
end Dl
/-! In, over data. -/
namespace Dl
open PySem PySem.Spec PyProof.Rows L2
theorem eqvAll_ints : ∀ a b : List Int, PyData.eqvAll (toPys (a.map D.int)) (toPys (b.map D.int)) = decide (a = b)
  | [], [] => by simp [toPys, PyData.eqvAll]
  | [], y :: b => by simp [toPys, PyData.eqvAll]
  | x :: a, [] => by simp [toPys, PyData.eqvAll]
  | x :: a, y :: b => by
    have ih := eqvAll_ints a b
    simp only [List.map_cons, toPys, toPy, PyData.eqvAll, eqv_int, ih]
    by_cases h1 : x = y <;> by_cases h2 : a = b <;> simp [h1, h2]
theorem eqv_tupI (a b : List Int) : (toPy (tupI a)).eqv (toPy (tupI b)) = decide (a = b) := by
  unfold tupI
  rw [toPy, toPy, PyData.eqv, eqvAll_ints]
theorem canLay_ints : ∀ a : List Int, PyData.canLayAll0 (toPys (a.map D.int)) = true
  | [] => by simp [toPys, PyData.canLayAll0]
  | x :: a => by simp [toPys, toPy, PyData.canLayAll0, PyData.canLay0, canLay_ints a]
theorem canLay_tupI (a : List Int) : (toPy (tupI a)).canLay0 = true := by
  unfold tupI
  rw [toPy, PyData.canLay0, canLay_ints]
theorem ok_tupI (a : List Int) : ok (tupI a) = true := by
  unfold ok SeqAt.shaped
  rw [pOk_tupI, canLay_tupI, depth_tupI]
  rfl
theorem ok_lstT (F : List (List Int)) : ok (.lst (F.map tupI)) = true := by
  unfold ok SeqAt.shaped
  have h1 : pOks (F.map tupI) = true := by
    rw [pOks_all]
    simp [pOk_tupI]
  have h2 : PyData.canLayAll0 (toPys (F.map tupI)) = true := by
    induction F with
    | nil => simp [toPys, PyData.canLayAll0]
    | cons f F ih => simp [toPys, PyData.canLayAll0, canLay_tupI, ih (by rw [pOks_all]; simp [pOk_tupI])]
  have h3 : PyData.depthAll (toPys (F.map tupI)) ≤ 1 := by
    clear h1 h2
    induction F with
    | nil => simp [toPys, PyData.depthAll]
    | cons f F ih => simp only [List.map_cons, toPys, PyData.depthAll, depth_tupI]; omega
  rw [pOk, h1, toPy, PyData.canLay0, h2, PyData.depth]
  simp
  omega
theorem in_list (m : List Int) (F : List (List Int)) : dIn (tupI m) (.lst (F.map tupI)) = some (.bl (decide (m ∈ F))) := by
  have e : inD (tupI m) (.lst (F.map tupI)) = some ((F.map tupI).any fun z => (toPy z).eqv (toPy (tupI m))) := if_pos ⟨ok_tupI m, ok_lstT F⟩
  unfold dIn
  rw [e, Option.map_some]
  clear e
  congr 2
  induction F with
  | nil => simp
  | cons f F ih =>
    rw [List.map_cons, List.any_cons, ih, eqv_tupI]
    by_cases h : f = m
    · subst h; simp
    · have : ¬ m = f := fun e => h e.symm
      simp [h, this]
theorem any_ints (k : Int) : ∀ p : List Int, ((p.map D.int).any fun z => match z with | .int j => decide (j = k) | _ => false) = decide (k ∈ p)
  | [] => by simp
  | x :: p => by
    rw [List.map_cons, List.any_cons, any_ints k p]
    by_cases h : x = k
    · subst h; simp
    · have : ¬ k = x := fun e => h e.symm
      simp [h, this]
theorem in_tup (k : Int) (p : List Int) : inD (.int k) (tupI p) = some (decide (k ∈ p)) := by
  unfold tupI
  have h1 : (p.map D.int).all (fun z => match z with | .int _ => true | _ => false) = true := by
    rw [List.all_map]; simp
  have e : inD (.int k) (.tup (p.map D.int)) = some ((p.map D.int).any fun z => match z with | .int j => decide (j = k) | _ => false) := if_pos h1
  rw [e, any_ints]
theorem notin_tup (k : Int) (p : List Int) : dNotIn (.int k) (tupI p) = some (.bl (!decide (k ∈ p))) := by
  unfold dNotIn
  rw [in_tup]
  rfl
end Dl
namespace Dl
open PySem PySem.Spec PyProof.Rows L2
def more (k : Int) (p : List Int) : List Int := isort (p ++ [k])
def pairOk (k : Int) (F : List (List Int)) (p : List Int) : Bool := decide (k ∉ p) && decide (more k p ∈ F)
def pairD (k : Int) (p : List Int) : D := .tup [tupI p, tupI (more k p)]
theorem ev_pairs_of {c : Cf} {hs : HS} {S : List Int} {w : KY → Int} {T : Int} {ks : List KY} {k : Int} (hd : (dedup (ks.map (·.2))).length < 63) (hl : ks.length ≤ 10000) (hp : ∀ p ∈ famS ks, p.length ≤ 100) : G_pairs_of c [whD S ks w T, .int k] hs = some (.lst (((famS ks).filter (pairOk k (famS ks))).map (pairD k)), hs) := by
  refine fn_ret rfl ?_
  unfold dn_pairs_of
  have hfl : (famS ks).length < 63 := by unfold famS; rw [List.length_mergeSort]; exact hd
  have ef := ev_family (c := c) (hs := hs) (S := S) (w := w) (T := T) hd hl
  generalize famS ks = F at *
  show sSeq _ _ [.dat (whD S ks w T), .dat (.int k), .dead, .dead, .dead, .dead] hs = _
  rw [seq_nx (Γ' := [.dat (whD S ks w T), .dat (.int k), .dead, .dead, .dead, .dat (.lst (F.map tupI))]) (hs' := hs) (by simp [ef])]
  rw [seq_nx (Γ' := [.dat (whD S ks w T), .dat (.int k), .dead, .own (.lst []), .dead, .dat (.lst (F.map tupI))]) (hs' := hs) (by simp [sOwn])]
  have loop := for_inv (step := stepD (gd1 4) (sSeq (sAsg 2 (eFn dTuple (lCons (eFn dSorted (lCons (eBin dAdd (eVar 4) (eTup (lCons (eVar 1) lNil))) lNil)) lNil)))
    (sIf (bAnd (bOf (eBin dNotIn (eVar 1) (eVar 4))) (bOf (eBin dIn (eVar 2) (eVar 5))))
    (sApp 3 (eTup (lCons (eVar 4) (lCons (eVar 2) lNil))))
    sNext))) tupI (fun pre Γ h => h = hs ∧ ∃ j2 j4, Γ = [.dat (whD S ks w T), .dat (.int k), j2, .own (.lst ((pre.filter (pairOk k F)).map (pairD k))), j4, .dat (.lst (F.map tupI))]) F (Γ := [.dat (whD S ks w T), .dat (.int k), .dead, .own (.lst []), .dead, .dat (.lst (F.map tupI))]) (hs := hs) ⟨rfl, _, _, rfl⟩ (by
    rintro pre p post Γ hs1 hF ⟨rfl, j2, j4, rfl⟩
    have hpl := hp p (by rw [hF]; simp)
    have a1 : dAdd (tupI p) (tupI [k]) = some (tupI (p ++ [k])) := dAdd_tupI _ _ (by simp; omega)
    have a2 : dSorted [tupI (p ++ [k])] = some (.lst ((more k p).map D.int)) := ev_sorted_tup (by simp; omega)
    have a3 : dTuple [.lst ((more k p).map D.int)] = some (tupI (more k p)) := rfl
    have a4 := notin_tup k p
    have a5 := in_list (more k p) F
    have hlen : ((pre.filter (pairOk k F)).map (pairD k)).length < 100000 := by
      have := congrArg List.length hF
      simp at this
      have := List.length_filter_le (pairOk k F) pre
      rw [List.length_map]
      omega
    have t1 : D.tup [.int k] = tupI [k] := rfl
    by_cases h1 : k ∈ p
    · have e1 : pairOk k F p = false := by simp [pairOk, h1]
      exact ⟨[.dat (whD S ks w T), .dat (.int k), .dat (tupI (more k p)), .own (.lst ((pre.filter (pairOk k F)).map (pairD k))), .dat (tupI p), .dat (.lst (F.map tupI))], hs1, by simp [stepD, gd1, t1, a1, a2, a3, a4, h1], rfl, .dat (tupI (more k p)), .dat (tupI p), by simp [List.filter_append, e1]⟩
    · by_cases h2 : more k p ∈ F
      · have e1 : pairOk k F p = true := by simp [pairOk, h1, h2]
        exact ⟨[.dat (whD S ks w T), .dat (.int k), .dat (tupI (more k p)), .own (.lst ((pre.filter (pairOk k F)).map (pairD k) ++ [pairD k p])), .dat (tupI p), .dat (.lst (F.map tupI))], hs1, by
          simp only [List.length_map] at hlen
          simp [stepD, gd1, t1, a1, a2, a3, a4, a5, h1, h2, sApp, hlen, pairD], rfl, .dat (tupI (more k p)), .dat (tupI p), by simp [List.filter_append, e1]⟩
      · have e1 : pairOk k F p = false := by simp [pairOk, h2]
        exact ⟨[.dat (whD S ks w T), .dat (.int k), .dat (tupI (more k p)), .own (.lst ((pre.filter (pairOk k F)).map (pairD k))), .dat (tupI p), .dat (.lst (F.map tupI))], hs1, by simp [stepD, gd1, t1, a1, a2, a3, a4, a5, h1, h2], rfl, .dat (tupI (more k p)), .dat (tupI p), by simp [List.filter_append, e1]⟩)
  obtain ⟨Γ', hs', e, rfl, j2, j4, rfl⟩ := loop
  rw [seq_nx (Γ' := [.dat (whD S ks w T), .dat (.int k), j2, .own (.lst ((F.filter (pairOk k F)).map (pairD k))), j4, .dat (.lst (F.map tupI))]) (hs' := hs') (by rw [for_eq (items := F.map tupI) (hs1 := hs') (by simp [lItemsL])]; exact e)]
  simp [sG, frzE, frzD]
end Dl
namespace Dl
open PySem PySem.Spec PyProof.Rows L2
def wo (k : Nat) (ct : List Int) : List Int := ct.take k ++ [-1] ++ ct.drop (k + 1)
theorem cut_lo (ds : List D) (k : Nat) : cutD ds none (some (k : Int)) = ds.take k := by
  unfold cutD
  rw [show HT.sIx ds.length 0 none = 0 from rfl, HT.sIx_nat]
  simp only [List.drop_zero, Nat.sub_zero]
  rw [List.take_eq_take_iff]
  omega
theorem cut_hi (ds : List D) (k : Nat) : cutD ds (some (k : Int)) none = ds.drop k := by
  unfold cutD
  rw [HT.sIx_nat, show HT.sIx ds.length ds.length none = ds.length from rfl]
  by_cases h : k ≤ ds.length
  · rw [Nat.min_eq_left h]
    exact List.take_of_length_le (by rw [List.length_drop]; omega)
  · rw [Nat.min_eq_right (by omega)]
    rw [List.drop_length, List.drop_eq_nil_of_le (by omega)]
    simp
theorem ev_without {c : Cf} {hs : HS} {ct : List Int} {k : Nat} (hl : ct.length ≤ 100) : G_without c [tupI ct, .int k] hs = some (tupI (wo k ct), hs) := by
  refine fn_ret rfl ?_
  unfold dn_without
  show sRet _ [.dat (tupI ct), .dat (.int k)] hs = _
  have e1 : (k : Int) + 1 = ((k + 1 : Nat) : Int) := by omega
  have c1 : D.tup ((ct.map D.int).take k) = tupI (ct.take k) := by unfold tupI; rw [List.map_take]
  have c2 : D.tup ((ct.map D.int).drop (k + 1)) = tupI (ct.drop (k + 1)) := by unfold tupI; rw [List.map_drop]
  have a1 : dAdd (tupI (ct.take k)) (tupI [-1]) = some (tupI (ct.take k ++ [-1])) := dAdd_tupI _ _ (by simp; omega)
  have a2 : dAdd (tupI (ct.take k ++ [-1])) (tupI (ct.drop (k + 1))) = some (tupI (wo k ct)) := dAdd_tupI _ _ (by simp; omega)
  have t1 : D.tup [.int (-1)] = tupI [-1] := rfl
  have s1 : eSlT (eVar 0) none (some (eVar 1)) [.dat (tupI ct), .dat (.int k)] hs = some (tupI (ct.take k), hs) := by
    unfold eSlT
    simp only [x_var, List.getElem?_cons_zero, Option.bind_some, tupI, List.getElem?_cons_succ, cut_lo]
    rw [List.map_take]
  have s2 : eSlT (eVar 0) (some (eBin dAdd (eVar 1) (eC (.int 1)))) none [.dat (tupI ct), .dat (.int k)] hs = some (tupI (ct.drop (k + 1)), hs) := by
    unfold eSlT
    simp only [x_bin, x_c, x_var, List.getElem?_cons_zero, Option.bind_some, tupI, List.getElem?_cons_succ, dAdd_int, Option.map_some, e1, cut_hi]
    rw [List.map_drop]
  simp [s1, s2, t1, a1, a2]
end Dl
namespace Dl
open PySem PySem.Spec PyProof.Rows L2
/-- a dict comprehension over unlike keys that leaves the hand alone; its keys are tuples of ints -/
theorem dc_map {α : Type} {gd : GDn} {ke ve : EDn} {Γ : Env} {hs : HS} (item : α → D) (key : α → List Int) (f : List Int → D) : ∀ (xs : List α) (pre : List (List Int)), (pre ++ xs.map key).Nodup → (∀ x ∈ xs, ∃ Γ', gd (item x) Γ = some Γ' ∧ ke Γ' hs = some (tupI (key x), hs) ∧ ve Γ' hs = some (f (key x), hs)) →
    dcD gd bYes ke ve Γ (xs.map item) (pre.map fun k => (tupI k, f k)) hs = some ((pre ++ xs.map key).map (fun k => (tupI k, f k)), hs)
  | [], pre, _, _ => by simp [dcD]
  | x :: xs, pre, nd, h => by
    obtain ⟨Γ', e1, e2, e3⟩ := h x List.mem_cons_self
    have nin : key x ∉ pre := fun hm => (List.nodup_append.mp nd).2.2 _ hm (key x) (by simp) rfl
    have put := putD_map (enc := tupI) (fun a b => tupK_inj) f (key x) (f (key x)) pre
    rw [if_neg nin] at put
    have e4 : (fun q : List Int => (tupI q, if q = key x then f (key x) else f q)) = fun q => (tupI q, f q) := by
      funext q
      by_cases hq : q = key x
      · subst hq; simp
      · simp [hq]
    rw [e4] at put
    have pk : putOk (pre.map fun k => (tupI k, f k)) (tupI (key x)) (f (key x)) = some ((pre ++ [key x]).map fun k => (tupI k, f k)) := by
      have hk8 : kOk 8 (tupI (key x)) = true := kOk_tupI 7 _
      rw [← put]
      unfold putOk tupI at *
      simp only [hk8, if_true]
    have ih := dc_map (Γ := Γ) (hs := hs) item key f xs (pre ++ [key x]) (by simpa using nd) (fun y hy => h y (List.mem_cons_of_mem _ hy))
    rw [List.map_cons, dcD]
    simp only [e1, Option.bind_some, bYes, if_true, e2, e3, pk]
    rw [ih]
    simp
end Dl
namespace Dl
open PySem PySem.Spec PyProof.Rows L2
/-- the quotient of one content -/
def quo (w : KY → Int) (p o : List Int) (ct : List Int) : Int × Int := low (w (ct, p)) (w (ct, o))
theorem ev_quotients {c : Cf} {hs : HS} {S : List Int} {w : KY → Int} {T : Int} {ks : List KY} {p o : List Int} (hS : Sz S) (nd : ks.Nodup) (hl : ks.length < 100000) (hnd : (conts S).Nodup) (hT : 0 < T) (hT2 : T < (2 : Int) ^ 2000) (hw : ∀ k ∈ ks, 0 < w k ∧ w k < (2 : Int) ^ 2000) (hp : ∀ ct ∈ conts S, (ct, p) ∈ ks ∧ (ct, o) ∈ ks) :
    G_quotients_along c [whD S ks w T, tupI p, tupI o] hs = some (.dic true ((conts S).map fun ct => (tupI ct, frD (quo w p o ct))), hs) := by
  refine fn_ret rfl ?_
  unfold dn_quotients_along
  have es := ev_shares_of (c := c) (hs := hs) (S := S) (w := w) (T := T) nd hl
  have ec := ev_contents_of (c := c) (hs := hs) hS
  show sSeq _ _ [.dat (whD S ks w T), .dat (tupI p), .dat (tupI o), .dead, .dead] hs = _
  rw [seq_nx (Γ' := [.dat (whD S ks w T), .dat (tupI p), .dat (tupI o), .dat (.dic true (ks.map fun k => (keyD k, frD (low (w k) T)))), .dead]) (hs' := hs) (by simp [es])]
  have ix : ∀ k ∈ ks, dIxN (.dic true (ks.map fun k => (keyD k, frD (low (w k) T)))) (keyD k) = some (frD (low (w k) T)) := fun k hk => by
    have look := lookD_map (enc := keyD) (fun a b => keyD_inj) (fun k => frD (low (w k) T)) k ks
    rw [if_pos hk] at look
    have hk8 := kOk_keyD k
    unfold dIxN keyD at *
    simp only [hk8, if_true]
    exact look
  have dc := dc_map (gd := gd1 4) (ke := eVar 4) (ve := eCall (G_over c) (lCons (eBin dIxN (eVar 3) (eTup (lCons (eVar 4) (lCons (eVar 1) lNil)))) (lCons (eBin dIxN (eVar 3) (eTup (lCons (eVar 4) (lCons (eVar 2) lNil)))) lNil))) (Γ := [.dat (whD S ks w T), .dat (tupI p), .dat (tupI o), .dat (.dic true (ks.map fun k => (keyD k, frD (low (w k) T)))), .dead]) (hs := hs) tupI (fun ct : List Int => ct) (fun ct => frD (quo w p o ct)) (conts S) [] (by simpa using hnd) (fun ct hct => by
    obtain ⟨h1, h2⟩ := hp ct hct
    have w1 := hw _ h1
    have w2 := hw _ h2
    have eo := ev_over (c := c) (hs := hs) (FrOk.low (Int.le_of_lt w1.1) hT w1.2 hT2) (FrOk.low (Int.le_of_lt w2.1) hT w2.2 hT2) (low_num w2.1 hT)
    rw [over_low hT w1.1 w2.1] at eo
    have i1 := ix _ h1
    have i2 := ix _ h2
    have k1 : D.tup [tupI ct, tupI p] = keyD (ct, p) := rfl
    have k2 : D.tup [tupI ct, tupI o] = keyD (ct, o) := rfl
    exact ⟨[.dat (whD S ks w T), .dat (tupI p), .dat (tupI o), .dat (.dic true (ks.map fun k => (keyD k, frD (low (w k) T)))), .dat (tupI ct)], rfl, by simp, by simp [k1, k2, i1, i2, eo, quo]⟩)
  have hcl : ((conts S).map tupI).length < 100000 := by rw [List.length_map]; have := hS.card; omega
  have rd : rDcN (lItemsL (eCall (G_contents_of c) (lCons (eFld (eVar 0) true) lNil))) [4] (gd1 4) bYes (eVar 4) (eCall (G_over c) (lCons (eBin dIxN (eVar 3) (eTup (lCons (eVar 4) (lCons (eVar 1) lNil)))) (lCons (eBin dIxN (eVar 3) (eTup (lCons (eVar 4) (lCons (eVar 2) lNil)))) lNil))) [.dat (whD S ks w T), .dat (tupI p), .dat (tupI o), .dat (.dic true (ks.map fun k => (keyD k, frD (low (w k) T)))), .dead] hs = some ((conts S).map (fun ct => (tupI ct, frD (quo w p o ct))), hs) := by
    unfold rDcN
    rw [if_pos (show deadAll _ [4] = true from rfl)]
    have src : lItemsL (eCall (G_contents_of c) (lCons (eFld (eVar 0) true) lNil)) [.dat (whD S ks w T), .dat (tupI p), .dat (tupI o), .dat (.dic true (ks.map fun k => (keyD k, frD (low (w k) T)))), .dead] hs = some ((conts S).map tupI, hs) := by
      simp [lItemsL, eFld, whD, ec]
    rw [src]
    simp only [Option.bind_some]
    rw [if_pos hcl]
    simpa using dc
  simp only [x_ret, eDcN, rd, Option.map_some]
end Dl
namespace Dl
open PySem PySem.Spec PyProof.Rows L2
/-- a column of n -/
def isCol (n : Int) : D → Bool
  | .int i => decide (0 ≤ i) && decide (i ≤ n - 1)
  | _ => false
theorem ev_check_column {c : Cf} {hs : HS} {S : List Int} {x : D} (h : askD x = true) : G_check_column c [tupI S, x] hs = some (if isCol S.length x = true then .ret .non else .exc .noCol, hs) := by
  unfold G_check_column fnX dn_check_column
  have e := ev_within (c := c) (hs := hs) (x := x) (a := 0) (b := (S.length : Int) - 1) h
  have e2 : G_is_within c [x, .int 0, .int ((S.length : Int) - 1)] hs = some (.bl (isCol S.length x), hs) := by
    rw [e]
    cases x <;> rfl
  have ll : dLen [tupI S] = some (.int S.length) := by simp [tupI, dLen]
  rw [if_pos (show [tupI S, x].length = 2 from rfl)]
  show ((sIf _ _ _) [.dat (tupI S), .dat x] hs).map nxNon = _
  cases hc : isCol S.length x <;> simp [ll, dSub_int, e2, hc, sExc, nxNon]
end Dl
namespace Dl
open PySem PySem.Spec PyProof.Rows L2
theorem lt_tupI (a b : List Int) : dLtU (tupI a) (tupI b) = some (.bl (decide (a < b))) := by
  have e : PySem.W.dataLt (toPy (tupI a)) (toPy (tupI b)) = decide (a < b) := by
    rw [toPy_tupI, toPy_tupI, PySem.W.dataLt_tuple]
    have := PySem.W.dataLt_ints a b
    unfold PySem.W.rowLt at this
    exact this
  have h : dLtT (tupI a) (tupI b) = some (.bl (decide (a < b))) := by
    have h1 := ok_tupI a
    have h2 := ok_tupI b
    have h3 := alike_tupI a b
    unfold dLtT tupI at *
    simp only [h1, h2, h3, and_self, if_true, e]
  exact h
theorem eq_tupI (a b : List Int) : dEqX (tupI a) (tupI b) = some (.bl (decide (a = b))) := by
  have e : dEqX (tupI a) (tupI b) = dEq (tupI a) (tupI b) := rfl
  rw [e, dEq, if_pos ⟨ok_tupI a, ok_tupI b⟩, eqv_tupI]
theorem ne_fr (p q : Int × Int) : dNeU (frD p) (frD q) = some (.bl (!decide (p = q))) := by
  have h := eq_fr p q
  have o : ∀ p : Int × Int, ok (frD p) = true := fun p => by simp [frD, ok, pOk, pOks, toPy, toPys, SeqAt.shaped, PyData.canLay0, PyData.canLayAll0, PyData.depth, PyData.depthAll]
  have e : dEqX (frD p) (frD q) = dEq (frD p) (frD q) := rfl
  have e2 : dNeU (frD p) (frD q) = dNe (frD p) (frD q) := rfl
  rw [e, dEq, if_pos ⟨o p, o q⟩] at h
  rw [e2, dNe, if_pos ⟨o p, o q⟩]
  injection h with h
  injection h with h
  rw [h]
end Dl
/-! loops that may return -/
namespace Dl
open PySem PySem.Spec PyProof.Rows L2
/-- a loop whose turns each either go on (keeping I) or return (by R); it returns if some turn's test B holds, else goes through -/
theorem for_ret {α : Type} {step : D → SDn} (enc : α → D) (I : Env → Prop) (R : D → Prop) (B : α → Bool) {hs : HS} : ∀ (xs : List α) (Γ : Env), I Γ → (∀ x ∈ xs, ∀ Γ, I Γ → (B x = true → ∃ d, step (enc x) Γ hs = some (.ret d, hs) ∧ R d) ∧ (B x = false → ∃ Γ', step (enc x) Γ hs = some (.nx Γ', hs) ∧ I Γ')) →
    (xs.any B = true → ∃ d, forD step (xs.map enc) Γ hs = some (.ret d, hs) ∧ R d) ∧ (xs.any B = false → ∃ Γ', forD step (xs.map enc) Γ hs = some (.nx Γ', hs) ∧ I Γ')
  | [], Γ, hI, _ => ⟨fun h => by simp at h, fun _ => ⟨Γ, rfl, hI⟩⟩
  | x :: xs, Γ, hI, h => by
    obtain ⟨h1, h2⟩ := h x List.mem_cons_self Γ hI
    cases hb : B x with
    | true =>
      obtain ⟨d, e, r⟩ := h1 hb
      refine ⟨fun _ => ⟨d, by rw [List.map_cons, forD, e]; rfl, r⟩, fun z => by simp [hb] at z⟩
    | false =>
      obtain ⟨Γ1, e, i1⟩ := h2 hb
      obtain ⟨g1, g2⟩ := for_ret enc I R B xs Γ1 i1 (fun y hy => h y (List.mem_cons_of_mem _ hy))
      have e3 : forD step ((x :: xs).map enc) Γ hs = forD step (xs.map enc) Γ1 hs := by rw [List.map_cons, forD, e]; rfl
      rw [e3, List.any_cons, hb, Bool.false_or]
      exact ⟨g1, g2⟩
/-- .. told which turn returns: the first whose test holds -/
theorem for_find {α : Type} {step : D → SDn} (enc : α → D) (I : Env → Prop) (R : α → D → Prop) (B : α → Bool) {hs : HS} : ∀ (xs : List α) (Γ : Env), I Γ → (∀ x ∈ xs, ∀ Γ, I Γ → (B x = true → ∃ d, step (enc x) Γ hs = some (.ret d, hs) ∧ R x d) ∧ (B x = false → ∃ Γ', step (enc x) Γ hs = some (.nx Γ', hs) ∧ I Γ')) →
    (∀ x, xs.find? B = some x → ∃ d, forD step (xs.map enc) Γ hs = some (.ret d, hs) ∧ R x d) ∧ (xs.find? B = none → ∃ Γ', forD step (xs.map enc) Γ hs = some (.nx Γ', hs) ∧ I Γ')
  | [], Γ, hI, _ => ⟨fun x h => by simp at h, fun _ => ⟨Γ, rfl, hI⟩⟩
  | x :: xs, Γ, hI, h => by
    obtain ⟨h1, h2⟩ := h x List.mem_cons_self Γ hI
    cases hb : B x with
    | true =>
      obtain ⟨d, e, r⟩ := h1 hb
      refine ⟨fun y hy => ?_, fun z => by simp [List.find?_cons, hb] at z⟩
      rw [List.find?_cons, hb] at hy
      cases hy
      exact ⟨d, by rw [List.map_cons, forD, e]; rfl, r⟩
    | false =>
      obtain ⟨Γ1, e, i1⟩ := h2 hb
      obtain ⟨g1, g2⟩ := for_find enc I R B xs Γ1 i1 (fun y hy => h y (List.mem_cons_of_mem _ hy))
      have e3 : forD step ((x :: xs).map enc) Γ hs = forD step (xs.map enc) Γ1 hs := by rw [List.map_cons, forD, e]; rfl
      rw [e3, List.find?_cons, hb]
      exact ⟨g1, g2⟩
end Dl
namespace Dl
open PySem PySem.Spec PyProof.Rows L2
/-- two contents that agree but for column k, and whose quotients differ -/
def badAt (w : KY → Int) (k : Nat) (p o a b : List Int) : Bool := decide (a < b) && decide (wo k a = wo k b) && !decide (quo w p o a = quo w p o b)
def badIn (w : KY → Int) (k : Nat) (cs : List (List Int)) (p o : List Int) : Bool := cs.any fun a => cs.any fun b => badAt w k p o a b
/-- what the inner loops leave: the whole, the column, the pair's second, the sorted, the quotients, .. -/
def fuEnv (x1 x2 x3 : Sl) (S : List Int) (ks : List KY) (w : KY → Int) (T : Int) (k : Nat) (o p : List Int) (cs CT : List (List Int)) : Env := [.dat (whD S ks w T), .dat (.int k), .dat (tupI o), .dat (.lst (cs.map tupI)), .dat (.dic true (CT.map fun ct => (tupI ct, frD (quo w p o ct)))), x1, .dat (tupI p), x2]
theorem ev_fu_in {c : Cf} {hs : HS} {S : List Int} {ks : List KY} {w : KY → Int} {T : Int} {k : Nat} {o p : List Int} {cs CT : List (List Int)} (hm : ∀ a ∈ cs, a ∈ CT ∧ a.length ≤ 100) (Γ : Env) (hΓ : ∃ x1 x2, Γ = fuEnv x1 x2 x1 S ks w T k o p cs CT) :
    (badIn w k cs p o = true → ∃ d, sFor (lItemsL (eVar 3)) (gd1 5)
    (sFor (lItemsL (eVar 3)) (gd1 7)
    (sIf (bAnd (bOf (eBin dLtU (eVar 5) (eVar 7))) (bOf (eBin dEqX (eCall (G_without c) (lCons (eVar 5) (lCons (eVar 1) lNil))) (eCall (G_without c) (lCons (eVar 7) (lCons (eVar 1) lNil))))))
    (sIf (bOf (eBin dNeU (eBin dIxN (eVar 4) (eVar 5)) (eBin dIxN (eVar 4) (eVar 7))))
    (sRet (eTup (lCons (eVar 1) (lCons (eVar 6) (lCons (eVar 5) (lCons (eVar 7) lNil))))))
    sNext)
    sNext)) Γ hs = some (.ret d, hs) ∧ ∃ r, d = .tup (.int k :: r)) ∧
    (badIn w k cs p o = false → ∃ Γ', sFor (lItemsL (eVar 3)) (gd1 5)
    (sFor (lItemsL (eVar 3)) (gd1 7)
    (sIf (bAnd (bOf (eBin dLtU (eVar 5) (eVar 7))) (bOf (eBin dEqX (eCall (G_without c) (lCons (eVar 5) (lCons (eVar 1) lNil))) (eCall (G_without c) (lCons (eVar 7) (lCons (eVar 1) lNil))))))
    (sIf (bOf (eBin dNeU (eBin dIxN (eVar 4) (eVar 5)) (eBin dIxN (eVar 4) (eVar 7))))
    (sRet (eTup (lCons (eVar 1) (lCons (eVar 6) (lCons (eVar 5) (lCons (eVar 7) lNil))))))
    sNext)
    sNext)) Γ hs = some (.nx Γ', hs) ∧ ∃ x1 x2, Γ' = fuEnv x1 x2 x1 S ks w T k o p cs CT) := by
  obtain ⟨x1, x2, rfl⟩ := hΓ
  have ix : ∀ a ∈ cs, dIxN (.dic true (CT.map fun ct => (tupI ct, frD (quo w p o ct)))) (tupI a) = some (frD (quo w p o a)) := fun a ha => by
    have look := lookD_map (enc := tupI) (fun a b => tupK_inj) (fun ct => frD (quo w p o ct)) a CT
    rw [if_pos (hm a ha).1] at look
    have hk8 : kOk 8 (tupI a) = true := kOk_tupI 7 _
    unfold dIxN tupI at *
    simp only [hk8, if_true]
    exact look
  rw [for_eq (items := cs.map tupI) (hs1 := hs) (by simp [lItemsL, fuEnv])]
  refine for_ret tupI (fun Γ => ∃ x1 x2, Γ = fuEnv x1 x2 x1 S ks w T k o p cs CT) (fun d => ∃ r, d = .tup (.int k :: r)) (fun a => cs.any fun b => badAt w k p o a b) cs _ ⟨x1, x2, rfl⟩ fun a ha Γ hΓ => ?_
  obtain ⟨y1, y2, rfl⟩ := hΓ
  have e0 : ∀ body : SDn, stepD (gd1 5) (sFor (lItemsL (eVar 3)) (gd1 7) body) (tupI a) (fuEnv y1 y2 y1 S ks w T k o p cs CT) hs = forD (stepD (gd1 7) body) (cs.map tupI) (fuEnv (.dat (tupI a)) y2 y1 S ks w T k o p cs CT) hs := fun body => by
    show sFor (lItemsL (eVar 3)) (gd1 7) body (fuEnv (.dat (tupI a)) y2 y1 S ks w T k o p cs CT) hs = _
    rw [for_eq (items := cs.map tupI) (hs1 := hs) (by simp [lItemsL, fuEnv])]
  rw [e0]
  have main := for_ret (hs := hs) (step := stepD (gd1 7) (sIf (bAnd (bOf (eBin dLtU (eVar 5) (eVar 7))) (bOf (eBin dEqX (eCall (G_without c) (lCons (eVar 5) (lCons (eVar 1) lNil))) (eCall (G_without c) (lCons (eVar 7) (lCons (eVar 1) lNil))))))
    (sIf (bOf (eBin dNeU (eBin dIxN (eVar 4) (eVar 5)) (eBin dIxN (eVar 4) (eVar 7))))
    (sRet (eTup (lCons (eVar 1) (lCons (eVar 6) (lCons (eVar 5) (lCons (eVar 7) lNil))))))
    sNext)
    sNext)) tupI (fun Γ => ∃ x2, Γ = fuEnv (.dat (tupI a)) x2 y1 S ks w T k o p cs CT) (fun d => ∃ r, d = .tup (.int k :: r)) (fun b => badAt w k p o a b) cs (fuEnv (.dat (tupI a)) y2 y1 S ks w T k o p cs CT) ⟨y2, rfl⟩ (fun b hb Γ hΓ => by
    obtain ⟨z2, rfl⟩ := hΓ
    have w1 := ev_without (c := c) (hs := hs) (ct := a) (k := k) (hm a ha).2
    have w2 := ev_without (c := c) (hs := hs) (ct := b) (k := k) (hm b hb).2
    have i1 := ix a ha
    have i2 := ix b hb
    have l1 := lt_tupI a b
    have q1 := eq_tupI (wo k a) (wo k b)
    have n1 := ne_fr (quo w p o a) (quo w p o b)
    by_cases c1 : a < b <;> by_cases c2 : wo k a = wo k b <;> by_cases c3 : quo w p o a = quo w p o b <;>
      simp only [c1, c2, c3, decide_true, decide_false, Bool.not_true, Bool.not_false] at q1 n1 l1 w1 i1 <;>
      simp [stepD, gd1, fuEnv, badAt, w1, w2, i1, i2, l1, q1, n1, c1, c2, c3])
  refine ⟨fun h => main.1 h, fun h => ?_⟩
  obtain ⟨Γ', e, x2, rfl⟩ := main.2 h
  exact ⟨_, e, _, _, rfl⟩
end Dl
namespace Dl
open PySem PySem.Spec PyProof.Rows L2
/-- the whole as the law makes it -/
structure WhOk (S : List Int) (w : KY → Int) (T : Int) (ks : List KY) : Prop where
  sz : Sz S
  nd : ks.Nodup
  dd : (dedup (ks.map (·.2))).length < 63
  few : ks.length ≤ 10000
  cnd : (conts S).Nodup
  T0 : 0 < T
  T1 : T < (2 : Int) ^ 2000
  wb : ∀ k ∈ ks, 0 < w k ∧ w k < (2 : Int) ^ 2000
  full : ∀ ct ∈ conts S, ∀ p ∈ famS ks, (ct, p) ∈ ks
  pl : ∀ p ∈ famS ks, p.length ≤ 100
def cS (S : List Int) : List (List Int) := (conts S).mergeSort (fun a b => decide (a ≤ b))
def badCol (S : List Int) (w : KY → Int) (ks : List KY) (k : Nat) : Bool := ((famS ks).filter (pairOk k (famS ks))).any fun p => badIn w k (cS S) p (more k p)
end Dl
namespace Dl
open PySem PySem.Spec PyProof.Rows L2
theorem cS_mem {S : List Int} {a : List Int} : a ∈ cS S ↔ a ∈ conts S := by
  unfold cS
  exact (List.mergeSort_perm _ _).mem_iff
noncomputable def fuIn (c : Cf) : SDn := sFor (lItemsL (eVar 3)) (gd1 5)
    (sFor (lItemsL (eVar 3)) (gd1 7)
    (sIf (bAnd (bOf (eBin dLtU (eVar 5) (eVar 7))) (bOf (eBin dEqX (eCall (G_without c) (lCons (eVar 5) (lCons (eVar 1) lNil))) (eCall (G_without c) (lCons (eVar 7) (lCons (eVar 1) lNil))))))
    (sIf (bOf (eBin dNeU (eBin dIxN (eVar 4) (eVar 5)) (eBin dIxN (eVar 4) (eVar 7))))
    (sRet (eTup (lCons (eVar 1) (lCons (eVar 6) (lCons (eVar 5) (lCons (eVar 7) lNil))))))
    sNext)
    sNext))
noncomputable def fuBody (c : Cf) : SDn := sFor (lItemsL (eCall (G_pairs_of c) (lCons (eVar 0) (lCons (eVar 1) lNil)))) (gd2 6 2)
    (sSeq (sAsg 4 (eCall (G_quotients_along c) (lCons (eVar 0) (lCons (eVar 6) (lCons (eVar 2) lNil)))))
    (sSeq (sAsg 3 (eFn dSorted (lCons (eVar 4) lNil)))
    (fuIn c)))
abbrev fuI (S : List Int) (ks : List KY) (w : KY → Int) (T : Int) (k : Nat) (Γ : Env) : Prop := ∃ y2 y3 y4 y5 y6 y7, Γ = [.dat (whD S ks w T), .dat (.int k), y2, y3, y4, y5, y6, y7]
theorem ev_fu_body {c : Cf} {hs : HS} {S : List Int} {ks : List KY} {w : KY → Int} {T : Int} {k : Nat} (h : WhOk S w T ks) (Γ : Env) (hΓ : fuI S ks w T k Γ) :
    (badCol S w ks k = true → ∃ d, fuBody c Γ hs = some (.ret d, hs) ∧ ∃ r, d = .tup (.int k :: r)) ∧ (badCol S w ks k = false → ∃ Γ', fuBody c Γ hs = some (.nx Γ', hs) ∧ fuI S ks w T k Γ') := by
  have ep := ev_pairs_of (c := c) (hs := hs) (S := S) (w := w) (T := T) (k := (k : Int)) h.dd h.few h.pl
  obtain ⟨y2, y3, y4, y5, y6, y7, rfl⟩ := hΓ
  unfold fuBody badCol
  rw [for_eq (items := ((famS ks).filter (pairOk k (famS ks))).map (pairD k)) (hs1 := hs) (by simp [lItemsL, ep])]
  refine for_ret (pairD k) (fuI S ks w T k) (fun d => ∃ r, d = .tup (.int k :: r)) (fun p => badIn w k (cS S) p (more k p)) _ _ ⟨_, _, _, _, _, _, rfl⟩ fun p hp Γ hΓ => ?_
  obtain ⟨z2, z3, z4, z5, z6, z7, rfl⟩ := hΓ
  obtain ⟨hp1, hp2⟩ := List.mem_filter.mp hp
  have hp3 : k ∉ p.map Int.toNat ∨ True := .inr trivial
  have hm : more k p ∈ famS ks := by
    have : ¬ (k : Int) ∈ p ∧ more k p ∈ famS ks := by simpa [pairOk] using hp2
    exact this.2
  have eq := ev_quotients (c := c) (hs := hs) (S := S) (w := w) (T := T) (ks := ks) (p := p) (o := more k p) h.sz h.nd (by have := h.few; omega) h.cnd h.T0 h.T1 h.wb (fun ct hct => ⟨h.full ct hct p hp1, h.full ct hct _ hm⟩)
  have hk : ((conts S).map fun ct => (tupI ct, frD (quo w p (more k p) ct))).map (·.1) = (conts S).map tupI := by simp
  have so : dSorted [.dic true ((conts S).map fun ct => (tupI ct, frD (quo w p (more k p) ct)))] = some (.lst ((cS S).map tupI)) := by
    unfold dSorted
    simp only [seqItems, Option.bind_some, hk]
    rw [if_pos (sortOk_tupI (by have := h.sz.card; omega)), sortD_tupI]
    rfl
  have e0 : stepD (gd2 6 2) (sSeq (sAsg 4 (eCall (G_quotients_along c) (lCons (eVar 0) (lCons (eVar 6) (lCons (eVar 2) lNil)))))
    (sSeq (sAsg 3 (eFn dSorted (lCons (eVar 4) lNil)))
    (fuIn c))) (pairD k p) [.dat (whD S ks w T), .dat (.int k), z2, z3, z4, z5, z6, z7] hs = fuIn c (fuEnv z5 z7 z5 S ks w T k (more k p) p (cS S) (conts S)) hs := by
    show sSeq _ _ [.dat (whD S ks w T), .dat (.int k), .dat (tupI (more k p)), z3, z4, z5, .dat (tupI p), z7] hs = _
    rw [seq_nx (Γ' := [.dat (whD S ks w T), .dat (.int k), .dat (tupI (more k p)), z3, .dat (.dic true ((conts S).map fun ct => (tupI ct, frD (quo w p (more k p) ct)))), z5, .dat (tupI p), z7]) (hs' := hs) (by simp [eq])]
    rw [seq_nx (Γ' := [.dat (whD S ks w T), .dat (.int k), .dat (tupI (more k p)), .dat (.lst ((cS S).map tupI)), .dat (.dic true ((conts S).map fun ct => (tupI ct, frD (quo w p (more k p) ct)))), z5, .dat (tupI p), z7]) (hs' := hs) (by simp [so])]
    rfl
  rw [e0]
  have hin := ev_fu_in (c := c) (hs := hs) (S := S) (ks := ks) (w := w) (T := T) (k := k) (o := more k p) (p := p) (cs := cS S) (CT := conts S) (fun a ha => ⟨cS_mem.mp ha, by have := conts_len (cS_mem.mp ha); have := h.sz.len; omega⟩) (fuEnv z5 z7 z5 S ks w T k (more k p) p (cS S) (conts S)) ⟨z5, z7, rfl⟩
  refine ⟨hin.1, fun hb => ?_⟩
  obtain ⟨Γ', e, x1, x2, rfl⟩ := hin.2 hb
  exact ⟨_, e, _, _, _, _, _, _, rfl⟩
end Dl
namespace Dl
open PySem PySem.Spec PyProof.Rows L2
/-- the first column that is not calm -/
def uncalm (S : List Int) (w : KY → Int) (ks : List KY) : Option Nat := (List.range S.length).find? (badCol S w ks)
theorem ev_first_uncalm {c : Cf} {hs : HS} {S : List Int} {ks : List KY} {w : KY → Int} {T : Int} (h : WhOk S w T ks) :
    (∀ k, uncalm S w ks = some k → ∃ r, G_first_uncalm c [whD S ks w T] hs = some (.tup (.int k :: r), hs)) ∧ (uncalm S w ks = none → G_first_uncalm c [whD S ks w T] hs = some (.non, hs)) := by
  have loop := for_find (hs := hs) (step := stepD (gd1 1) (fuBody c)) (fun (i : Nat) => D.int (i : Int)) (fun Γ => ∃ y1 y2 y3 y4 y5 y6 y7, Γ = [.dat (whD S ks w T), y1, y2, y3, y4, y5, y6, y7]) (fun k d => ∃ r, d = .tup (.int k :: r)) (badCol S w ks) (List.range S.length) [.dat (whD S ks w T), .dead, .dead, .dead, .dead, .dead, .dead, .dead] ⟨_, _, _, _, _, _, _, rfl⟩ (fun k hk Γ hΓ => by
    obtain ⟨y1, y2, y3, y4, y5, y6, y7, rfl⟩ := hΓ
    have b := ev_fu_body (c := c) (hs := hs) (k := k) h [.dat (whD S ks w T), .dat (.int k), y2, y3, y4, y5, y6, y7] ⟨_, _, _, _, _, _, rfl⟩
    refine ⟨b.1, fun hb => ?_⟩
    obtain ⟨Γ', e, z2, z3, z4, z5, z6, z7, rfl⟩ := b.2 hb
    exact ⟨_, e, _, _, _, _, _, _, _, rfl⟩)
  have src : sFor (lRng1 (eFn dLen (lCons (eFld (eVar 0) true) lNil))) (gd1 1) (fuBody c) [.dat (whD S ks w T), .dead, .dead, .dead, .dead, .dead, .dead, .dead] hs = forD (stepD (gd1 1) (fuBody c)) ((List.range S.length).map (fun (i : Nat) => D.int (i : Int))) [.dat (whD S ks w T), .dead, .dead, .dead, .dead, .dead, .dead, .dead] hs := by
    have hl := h.sz.len
    rw [for_eq (rng1_eq (n := (S.length : Int)) (hs1 := hs) (by simp [eFld, whD, tupI, dLen]) (by omega) (by omega))]
    simp
  refine ⟨fun k hk => ?_, fun hk => ?_⟩
  · obtain ⟨d, e, r, rfl⟩ := loop.1 k hk
    refine ⟨r, fn_ret rfl ?_⟩
    show sSeq (sFor (lRng1 (eFn dLen (lCons (eFld (eVar 0) true) lNil))) (gd1 1) (fuBody c)) _ [.dat (whD S ks w T), .dead, .dead, .dead, .dead, .dead, .dead, .dead] hs = _
    exact seq_ret (by rw [src]; exact e)
  · obtain ⟨Γ', e, _⟩ := loop.2 hk
    refine fn_ret rfl ?_
    show sSeq (sFor (lRng1 (eFn dLen (lCons (eFld (eVar 0) true) lNil))) (gd1 1) (fuBody c)) _ [.dat (whD S ks w T), .dead, .dead, .dead, .dead, .dead, .dead, .dead] hs = _
    rw [seq_nx (Γ' := Γ') (hs' := hs) (by rw [src]; exact e)]
    simp
end Dl
namespace Dl
open PySem PySem.Spec PyProof.Rows L2
theorem ev_check_calm {c : Cf} {hs : HS} {S : List Int} {ks : List KY} {w : KY → Int} {T : Int} (h : WhOk S w T ks) : G_check_calm c [whD S ks w T] hs = some (match uncalm S w ks with | some k => .exc (.notCalm (k : Nat)) | none => .ret .non, hs) := by
  unfold G_check_calm fnX dn_check_calm
  rw [if_pos (show [whD S ks w T].length = 1 from rfl)]
  show ((sSeq _ _) [.dat (whD S ks w T), .dead] hs).map nxNon = _
  obtain ⟨h1, h2⟩ := ev_first_uncalm (c := c) (hs := hs) h
  cases hu : uncalm S w ks with
  | none =>
    have e := h2 hu
    rw [seq_nx (Γ' := [.dat (whD S ks w T), .dat .non]) (hs' := hs) (by simp [e])]
    simp [dIsNot, nxNon]
  | some k =>
    obtain ⟨r, e⟩ := h1 k hu
    have n1 : dIsNot (.tup (.int k :: r)) .non = some (.bl true) := rfl
    have i1 : dIx (.tup (.int k :: r)) (.int 0) = some (.int k) := ix_int (by omega) (by simp)
    rw [seq_nx (Γ' := [.dat (whD S ks w T), .dat (.tup (.int k :: r))]) (hs' := hs) (by simp [e])]
    simp [n1, sRaiseN, i1, nxNon]
end Dl
/-! odds: what the pattern may be. -/
namespace Dl
open PySem PySem.Spec PyProof.Rows L2
/-- what the law hands over as a pattern -/
inductive PatD where
  | nums (q : List Int)
  | bl1 (b : Bool)
  | str1 (x : Str)
  | tup0
  | other (x : D)
def PatD.d : PatD → D
  | .nums q => tupI q
  | .bl1 b => .tup [.bl b]
  | .str1 x => .tup [.str x]
  | .tup0 => .tup [.tup []]
  | .other x => x
end Dl
namespace Dl
open PySem PySem.Spec PyProof.Rows L2
def otherOk (x : D) : Prop := isT x = false ∧ askD x = true ∧ (ok x = true ∨ (∃ z kvs, x = .dic z kvs) ∨ ∃ a b, x = .obj a b)
def PatD.okP : PatD → Prop
  | .str1 x => ok (.str x) = true
  | .other x => otherOk x
  | _ => True
def eqp : PatD → List Int → Bool
  | .nums q, p => decide (p = q)
  | .bl1 b, p => decide (p = [if b then 1 else 0])
  | _, _ => false
theorem ev_eq_tup {c : Cf} {hs : HS} {a b : D} {p : List Int} : G_eq c [.obj a b, tupI p] hs = some (.bl false, hs) := by
  refine fn_ret rfl ?_
  unfold dn_eq
  show sRet _ [.dat (.obj a b), .dat (tupI p)] hs = _
  have e : dIsi c [tupI p, .cls c.C] = some (.bl false) := by simp [tupI, dIsi, tyN]
  simp [e]
theorem isT_pat (x : PatD) : (∃ q, x = .nums q) ∨ (∃ b, x = .bl1 b) ∨ (∃ z, x = .str1 z) ∨ x = .tup0 ∨ ∃ y, x = .other y := by
  cases x
  · exact .inl ⟨_, rfl⟩
  · exact .inr (.inl ⟨_, rfl⟩)
  · exact .inr (.inr (.inl ⟨_, rfl⟩))
  · exact .inr (.inr (.inr (.inl rfl)))
  · exact .inr (.inr (.inr (.inr ⟨_, rfl⟩)))
end Dl
namespace Dl
open PySem PySem.Spec PyProof.Rows L2
theorem ok_bl1 (b : Bool) : ok (.tup [.bl b]) = true := by cases b <;> simp [ok, pOk, pOks, toPy, toPys, SeqAt.shaped, PyData.canLay0, PyData.canLayAll0, PyData.depth, PyData.depthAll]
theorem ok_tup0 : ok (.tup [.tup []]) = true := by simp [ok, pOk, pOks, toPy, toPys, SeqAt.shaped, PyData.canLay0, PyData.canLayAll0, PyData.depth, PyData.depthAll]
theorem ok_str1 {x : Str} (h : ok (.str x) = true) : ok (.tup [.str x]) = true := by
  simp [ok, pOk, pOks, toPy, toPys, SeqAt.shaped, PyData.canLay0, PyData.canLayAll0, PyData.depth, PyData.depthAll] at h ⊢
  exact h
theorem dEqX_ok {a b : D} (ha : tupOf a = none ∨ (∀ z kvs, b ≠ .dic z kvs)) (h1 : ok a = true) (h2 : ok b = true) : dEqX a b = some (.bl ((toPy a).eqv (toPy b))) := by
  have e : dEqX a b = dEq a b := by
    unfold dEqX
    split
    · rename_i z kvs h
      rcases ha with ha | ha
      · rw [ha] at h; cases h
      · exact absurd rfl (ha _ _)
    · rfl
  rw [e, dEq, if_pos ⟨h1, h2⟩]
/-- tuple == pattern -/
theorem ev_eqW {c : Cf} {hs : HS} {p : List Int} {x : PatD} (hx : x.okP) : ∃ r, eqW (G_eq c) (tupI p) x.d hs = some (.bl r, hs) ∧ (isT x.d = true → r = eqp x p) := by
  have eqw : ∀ y : D, (∀ a b, y ≠ .obj a b) → eqW (G_eq c) (tupI p) y hs = (dEqX (tupI p) y).map fun d => (d, hs) := fun y hy => by
    cases y <;> first | rfl | exact absurd rfl (hy _ _)
  cases x with
  | nums q =>
    refine ⟨decide (p = q), ?_, fun _ => rfl⟩
    rw [show PatD.d (.nums q) = tupI q from rfl, eqw _ (by intro a b h; cases h), eq_tupI]
    rfl
  | bl1 b =>
    refine ⟨_, by rw [show PatD.d (.bl1 b) = .tup [.bl b] from rfl, eqw _ (by intro a b h; cases h), dEqX_ok (.inr (by intro z k h; cases h)) (ok_tupI p) (ok_bl1 b)]; rfl, fun _ => ?_⟩
    unfold tupI eqp
    cases p with
    | nil => simp [toPy, toPys, PyData.eqv, PyData.eqvAll]
    | cons x p =>
      cases p with
      | nil =>
        cases b
        · by_cases h : x = 0 <;> simp [toPy, toPys, PyData.eqv, PyData.eqvAll, h]
        · by_cases h : x = 1 <;> simp [toPy, toPys, PyData.eqv, PyData.eqvAll, h]
      | cons y p => cases b <;> simp [toPy, toPys, PyData.eqv, PyData.eqvAll]
  | str1 z =>
    refine ⟨_, by rw [show PatD.d (.str1 z) = .tup [.str z] from rfl, eqw _ (by intro a b h; cases h), dEqX_ok (.inr (by intro z k h; cases h)) (ok_tupI p) (ok_str1 hx)]; rfl, fun _ => ?_⟩
    unfold tupI eqp
    cases p with
    | nil => simp [toPy, toPys, PyData.eqv, PyData.eqvAll]
    | cons x p => simp [toPy, toPys, PyData.eqv, PyData.eqvAll]
  | tup0 =>
    refine ⟨_, by rw [show PatD.d .tup0 = .tup [.tup []] from rfl, eqw _ (by intro a b h; cases h), dEqX_ok (.inr (by intro z k h; cases h)) (ok_tupI p) ok_tup0]; rfl, fun _ => ?_⟩
    unfold tupI eqp
    cases p with
    | nil => simp [toPy, toPys, PyData.eqv, PyData.eqvAll]
    | cons x p => simp [toPy, toPys, PyData.eqv, PyData.eqvAll]
  | other y =>
    obtain ⟨h1, h2, h3⟩ := hx
    have hno : isT (PatD.d (.other y)) = true → False := fun h => by
      rw [show PatD.d (.other y) = y from rfl, h1] at h; cases h
    rcases h3 with h3 | ⟨z, kvs, rfl⟩ | ⟨a, b, rfl⟩
    · refine ⟨_, by rw [show PatD.d (.other y) = y from rfl, eqw _ (by intro a b h; subst h; simp [ok, pOk] at h3), dEqX_ok (.inr (by intro z k h; subst h; simp [ok, pOk] at h3)) (ok_tupI p) h3]; rfl, fun h => (hno h).elim⟩
    · exact ⟨false, by rw [show PatD.d (.other (.dic z kvs)) = .dic z kvs from rfl, eqw _ (by intro a b h; cases h)]; rfl, fun h => (hno h).elim⟩
    · refine ⟨false, ?_, fun h => (hno h).elim⟩
      have e := ev_eq_tup (c := c) (hs := hs) (a := a) (b := b) (p := p)
      show eqW (G_eq c) (.tup (p.map D.int)) (.obj a b) hs = _
      unfold eqW
      have e2 : G_eq c [.obj a b, .tup (p.map D.int)] hs = some (.bl false, hs) := e
      simp [e2, asBl]
end Dl
/-! odds. -/
namespace Dl
open PySem PySem.Spec PyProof.Rows L2
theorem isi_tuple {c : Cf} {x : D} (h : askD x = true) : dIsi c [x, .ty "tuple"] = some (.bl (isT x)) := by
  cases x <;> first | (cases h; done) | simp [dIsi, tyN, isiTy, isT]
def isB : D → Bool
  | .bl _ => true
  | _ => false
theorem isi_bool {c : Cf} {x : D} (h : askD x = true) : dIsi c [x, .ty "bool"] = some (.bl (isB x)) := by
  cases x <;> first | (cases h; done) | simp [dIsi, tyN, isiTy, isB]
theorem isi_int {c : Cf} {x : D} (h : askD x = true) : dIsi c [x, .ty "int"] = some (.bl (isI x || isB x)) := by
  cases x <;> first | (cases h; done) | simp [dIsi, tyN, isiTy, isB, isI]
theorem PatD.ask {x : PatD} (h : x.okP) : askD x.d = true := by
  cases x with
  | other y => exact h.2.1
  | _ => rfl
def selP (k : Int) (F : List (List Int)) (x : PatD) : List (List Int) := (F.filter (pairOk k F)).filter fun p => isT x.d && eqp x p
theorem dc_fold {α : Type} {gd : GDn} {ke ve : EDn} {Γ : Env} {hs : HS} (item : α → D) (key : α → List Int) (f : α → D) : ∀ (xs : List α) (acc : List (D × D)), (∀ x ∈ xs, ∃ Γ', gd (item x) Γ = some Γ' ∧ ke Γ' hs = some (tupI (key x), hs) ∧ ve Γ' hs = some (f x, hs)) →
    dcD gd bYes ke ve Γ (xs.map item) acc hs = some (xs.foldl (fun acc x => putD acc (tupI (key x)) (f x)) acc, hs)
  | [], acc, _ => by simp [dcD]
  | x :: xs, acc, h => by
    obtain ⟨Γ', e1, e2, e3⟩ := h x List.mem_cons_self
    have pk : putOk acc (tupI (key x)) (f x) = some (putD acc (tupI (key x)) (f x)) := by
      have hk8 : kOk 8 (tupI (key x)) = true := kOk_tupI 7 _
      unfold putOk tupI at *
      simp only [hk8, if_true]
    have ih := dc_fold (Γ := Γ) (hs := hs) item key f xs (putD acc (tupI (key x)) (f x)) (fun y hy => h y (List.mem_cons_of_mem _ hy))
    rw [List.map_cons, dcD]
    simp only [e1, Option.bind_some, bYes, if_true, e2, e3, pk]
    rw [ih]
    rfl
def tacc (w : KY → Int) (k : Nat) (q : List Int) (acc : List (D × D)) (cs : List (List Int)) : List (D × D) := cs.foldl (fun acc ct => putD acc (tupI (wo k ct)) (frD (quo w q (more k q) ct))) acc
def tdict (S : List Int) (w : KY → Int) (k : Nat) (q : List Int) : List (D × D) := tacc w k q [] (conts S)
theorem fnX_eq {n m : Nat} {g : SDn} {ds : List D} {hs : HS} {r : Res} {hs' : HS} (hl : ds.length = n) (h : (g (ds.map Sl.dat ++ List.replicate (m - n) .dead) hs).map nxNon = some (r, hs')) : fnX n m g ds hs = some (r, hs') := by
  unfold fnX
  rw [if_pos hl]; exact h
theorem odds_col {c : Cf} {hs : HS} {S : List Int} {ks : List KY} {w : KY → Int} {T : Int} {x y : D} (h : askD x = true) (hc : isCol S.length x = false) : G_odds c [whD S ks w T, x, y] hs = some (.exc .noCol, hs) := by
  refine fnX_eq rfl ?_
  show (dn_odds c [.dat (whD S ks w T), .dat x, .dat y, .dead, .dead, .dead, .dead, .dead] hs).map nxNon = _
  unfold dn_odds
  have e := ev_check_column (c := c) (hs := hs) (S := S) h
  rw [hc, if_neg Bool.false_ne_true] at e
  have e2 : sCallX (G_check_column c) (lCons (eFld (eVar 0) true) (lCons (eVar 1) lNil)) [.dat (whD S ks w T), .dat x, .dat y, .dead, .dead, .dead, .dead, .dead] hs = some (.exc .noCol, hs) := by
    unfold sCallX
    simp only [x_cons, x_nil, x_var, eFld, whD, List.getElem?_cons_zero, List.getElem?_cons_succ, Option.bind_some, Option.map_some, if_true, e]
  rw [x_seq, e2]
  rfl
end Dl
/-! odds, the rest. -/
namespace Dl
open PySem PySem.Spec PyProof.Rows L2
@[simp] theorem x_eqw {G : Fn} {f1 f2 : EDn} {Γ : Env} {hs : HS} : eEqW G f1 f2 Γ hs = (f1 Γ hs).bind fun r1 => (f2 Γ r1.2).bind fun r2 => eqW G r1.1 r2.1 r2.2 := rfl
noncomputable def oddsT (c : Cf) : SDn :=
    (sSeq (sIf (bOr (bOf (eBin dEqX (eFn dLen (lCons (eVar 4) lNil)) (eC (.int 0)))) (bOf (eFn dAny (lCons (eComp (lItemsT (eVar 2)) [7] (gd1 7) bYes (eFn (dIsi c) (lCons (eVar 7) (lCons (eC (.ty "bool")) lNil)))) lNil))))
    (sExc .noPat)
    sNext)
    (sSeq (sCallX (G_check_calm c) (lCons (eVar 0) lNil))
    (sSeq (sAsg 3 (eCall (G_quotients_along c) (lCons (eVar 0) (lCons (eBin dIx (eBin dIx (eVar 4) (eC (.int 0))) (eC (.int 0))) (lCons (eBin dIx (eBin dIx (eVar 4) (eC (.int 0))) (eC (.int 1))) lNil)))))
    (sRetDc (lItemsK (eVar 3)) [6] (gd1 6) bYes (eCall (G_without c) (lCons (eVar 6) (lCons (eVar 1) lNil))) (eBin dIxN (eVar 3) (eVar 6))))))
theorem odds_step {c : Cf} {hs : HS} {S : List Int} {ks : List KY} {w : KY → Int} {T : Int} {k : Nat} {x : PatD} (h : WhOk S w T ks) (hk : k < S.length) (hx : x.okP) :
    dn_odds c [.dat (whD S ks w T), .dat (.int k), .dat x.d, .dead, .dead, .dead, .dead, .dead] hs = oddsT c [.dat (whD S ks w T), .dat (.int k), .dat x.d, .dead, .dat (.lst ((selP k (famS ks) x).map (pairD k))), .dead, .dead, .dead] hs := by
  unfold dn_odds
  have e := ev_check_column (c := c) (hs := hs) (S := S) (x := .int k) rfl
  rw [show isCol S.length (.int k) = true by simp [isCol]; omega, if_pos rfl] at e
  have e2 : sCallX (G_check_column c) (lCons (eFld (eVar 0) true) (lCons (eVar 1) lNil)) [.dat (whD S ks w T), .dat (.int k), .dat x.d, .dead, .dead, .dead, .dead, .dead] hs = some (.nx [.dat (whD S ks w T), .dat (.int k), .dat x.d, .dead, .dead, .dead, .dead, .dead], hs) := by
    unfold sCallX
    simp only [x_cons, x_nil, x_var, eFld, whD, List.getElem?_cons_zero, List.getElem?_cons_succ, Option.bind_some, Option.map_some, if_true, e]
  rw [seq_nx e2]
  have ep := ev_pairs_of (c := c) (hs := hs) (S := S) (w := w) (T := T) (k := (k : Int)) h.dd h.few h.pl
  have hft : (famS ks).length < 63 := by unfold famS; rw [List.length_mergeSort]; exact h.dd
  have cm := comp_pure (gd := gd1 5) (cond := bAnd (bOf (eEqW (G_eq c) (eBin dIx (eVar 5) (eC (.int 0))) (eVar 2))) (bOf (eFn (dIsi c) (lCons (eVar 2) (lCons (eC (.ty "tuple")) lNil))))) (elt := eVar 5) (Γ := [.dat (whD S ks w T), .dat (.int k), .dat x.d, .dead, .dead, .dead, .dead, .dead]) (hs := hs) (pairD k) (pairD k) (fun p => isT x.d && eqp x p) id ((famS ks).filter (pairOk k (famS ks))) (fun p hp => by
    obtain ⟨r, er, hr⟩ := ev_eqW (c := c) (hs := hs) (p := p) hx
    have i0 : dIx (pairD k p) (.int 0) = some (tupI p) := rfl
    have it := isi_tuple (c := c) (PatD.ask hx)
    refine ⟨[.dat (whD S ks w T), .dat (.int k), .dat x.d, .dead, .dead, .dat (pairD k p), .dead, .dead], rfl, ?_, fun _ => by simp⟩
    cases ht : isT x.d with
    | true =>
      have := hr ht
      subst this
      cases hq : eqp x p <;> simp [i0, er, it, ht, hq]
    | false => cases r <;> simp [i0, er, it, ht])
  rw [List.map_id] at cm
  have hcl : ((List.filter (pairOk (↑k) (famS ks)) (famS ks)).map (pairD k)).length ≤ 100000 := by
    rw [List.length_map]
    have := List.length_filter_le (pairOk k (famS ks)) (famS ks)
    omega
  rw [seq_nx (asg (comp_eq (src := lItemsL (eCall (G_pairs_of c) (lCons (eVar 0) (lCons (eVar 1) lNil)))) (hs := hs) (hs1 := hs) rfl (by simp [lItemsL, ep]) hcl cm))]
  rfl
theorem sel_mem {k : Int} {F : List (List Int)} {x : PatD} {p : List Int} (h : p ∈ selP k F x) : p ∈ F ∧ pairOk k F p = true ∧ isT x.d = true ∧ eqp x p = true := by
  unfold selP at h
  obtain ⟨h1, h2⟩ := List.mem_filter.mp h
  obtain ⟨h3, h4⟩ := List.mem_filter.mp h1
  have h5 : isT x.d = true ∧ eqp x p = true := by simpa using h2
  exact ⟨h3, h4, h5.1, h5.2⟩
theorem nil_of {α : Type} {l : List α} (h : ∀ a ∈ l, False) : l = [] := by
  cases l with
  | nil => rfl
  | cons a l => exact (h a List.mem_cons_self).elim
theorem sel_other {k : Int} {F : List (List Int)} {x : PatD} (h : ∀ p, eqp x p = false) : selP k F x = [] := nil_of fun p hp => by
  have := (sel_mem hp).2.2.2
  rw [h p] at this; cases this
theorem sel_no {k : Int} {F : List (List Int)} {q : List Int} (h : ¬ (q ∈ F ∧ pairOk k F q = true)) : selP k F (.nums q) = [] := nil_of fun p hp => by
  obtain ⟨h1, h2, _, h3⟩ := sel_mem hp
  have : p = q := by simpa [eqp] using h3
  subst this
  exact h ⟨h1, h2⟩
theorem sel_yes {k : Int} {F : List (List Int)} {q : List Int} (h1 : q ∈ F) (h2 : pairOk k F q = true) : ∃ r, selP k F (.nums q) = q :: r := by
  have hm : q ∈ selP k F (.nums q) := by
    unfold selP
    refine List.mem_filter.mpr ⟨List.mem_filter.mpr ⟨h1, h2⟩, ?_⟩
    simp [eqp, PatD.d, tupI, isT]
  cases hl : selP k F (.nums q) with
  | nil => rw [hl] at hm; cases hm
  | cons p r =>
    have : p ∈ selP k F (.nums q) := by rw [hl]; exact List.mem_cons_self
    have h3 : p = q := by simpa [eqp] using (sel_mem this).2.2.2
    exact ⟨r, by rw [h3]⟩
theorem oddsT_nil {c : Cf} {hs : HS} {a b d : Sl} : oddsT c [a, b, d, .dead, .dat (.lst []), .dead, .dead, .dead] hs = some (.exc .noPat, hs) := by
  unfold oddsT
  simp [dLen, dEqX_int, sExc]
theorem oddsT_bl {c : Cf} {hs : HS} {a b : Sl} {z : Bool} {l : List D} : oddsT c [a, b, .dat (PatD.d (.bl1 z)), .dead, .dat (.lst l), .dead, .dead, .dead] hs = some (.exc .noPat, hs) := by
  unfold oddsT
  have i1 : dIsi c [.bl z, .ty "bool"] = some (.bl true) := isi_bool (x := .bl z) rfl
  have cm : compD (gd1 7) bYes (eFn (dIsi c) (lCons (eVar 7) (lCons (eC (.ty "bool")) lNil))) [a, b, .dat (PatD.d (.bl1 z)), .dead, .dat (.lst l), .dead, .dead, .dead] [.bl z] hs = some ([.bl true], hs) := by
    simp [compD, gd1, bYes, i1]
  have cq := comp_eq (src := lItemsT (eVar 2)) (js := [7]) (hs := hs) (hs1 := hs) rfl (by simp [lItemsT, PatD.d, tupOf]) (by simp) cm
  have da : dAny [.lst [.bl true]] = some (.bl true) := rfl
  have d0 : dLen [.lst l] = some (.int l.length) := rfl
  by_cases hl : (l.length : Int) = 0
  · simp only [x_seq, x_if, x_or, x_bof, x_bin, x_fn, x_cons, x_nil, x_var, x_c, List.getElem?_cons_succ, List.getElem?_cons_zero, Option.bind_some, Option.map_some, d0, dEqX_int, hl, decide_true, if_true, sExc]
  · simp only [x_seq, x_if, x_or, x_bof, x_bin, x_fn, x_cons, x_nil, x_var, x_c, List.getElem?_cons_succ, List.getElem?_cons_zero, Option.bind_some, Option.map_some, d0, dEqX_int, hl, decide_false, Bool.false_eq_true, if_false, if_true, sExc, cq, da]
end Dl
/-! odds: what it gives. -/
namespace Dl
open PySem PySem.Spec PyProof.Rows L2
theorem anyB_ints (q : List Int) : dAny [.lst (q.map fun _ => D.bl false)] = some (.bl false) := by
  have := blsD_map (fun _ : Int => false) q
  show Option.map _ (blsD (q.map fun _ => D.bl false)) = _
  rw [this]
  simp
theorem oddsT_go {c : Cf} {hs : HS} {S : List Int} {ks : List KY} {w : KY → Int} {T : Int} {k : Nat} {q : List Int} {r : List (List Int)} (h : WhOk S w T ks) (hq : q ∈ famS ks) (hm : more k q ∈ famS ks) :
    oddsT c [.dat (whD S ks w T), .dat (.int k), .dat (tupI q), .dead, .dat (.lst ((q :: r).map (pairD k))), .dead, .dead, .dead] hs = some (match uncalm S w ks with | some j => .exc (.notCalm (j : Nat)) | none => .retO (.dic false (tdict S w k q)), hs) := by
  unfold oddsT
  have hql := h.pl q hq
  have cm := comp_map (gd := gd1 7) (elt := eFn (dIsi c) (lCons (eVar 7) (lCons (eC (.ty "bool")) lNil))) (Γ := [.dat (whD S ks w T), .dat (.int k), .dat (tupI q), .dead, .dat (.lst ((q :: r).map (pairD k))), .dead, .dead, .dead]) (hs := hs) D.int D.bl (fun _ => false) q (fun z hz => by
    have i1 : dIsi c [.int z, .ty "bool"] = some (.bl false) := isi_bool (x := .int z) rfl
    exact ⟨_, rfl, by simp [i1]⟩)
  have cq := comp_eq (src := lItemsT (eVar 2)) (js := [7]) (hs := hs) (hs1 := hs) rfl (by simp [lItemsT, tupI, tupOf]) (by rw [List.length_map]; omega) cm
  rw [List.map_map] at cq
  have da := anyB_ints q
  have d0 : dLen [.lst ((q :: r).map (pairD k))] = some (.int ((q :: r).map (pairD k)).length) := rfl
  have hl : ¬ (((q :: r).map (pairD k)).length : Int) = 0 := by simp; omega
  have ifn : sIf (bOr (bOf (eBin dEqX (eFn dLen (lCons (eVar 4) lNil)) (eC (.int 0)))) (bOf (eFn dAny (lCons (eComp (lItemsT (eVar 2)) [7] (gd1 7) bYes (eFn (dIsi c) (lCons (eVar 7) (lCons (eC (.ty "bool")) lNil)))) lNil))))
    (sExc .noPat)
    sNext [.dat (whD S ks w T), .dat (.int k), .dat (tupI q), .dead, .dat (.lst ((q :: r).map (pairD k))), .dead, .dead, .dead] hs = some (.nx [.dat (whD S ks w T), .dat (.int k), .dat (tupI q), .dead, .dat (.lst ((q :: r).map (pairD k))), .dead, .dead, .dead], hs) := by
    have cq2 : eComp (lItemsT (eVar 2)) [7] (gd1 7) bYes (eFn (dIsi c) (lCons (eVar 7) (lCons (eC (.ty "bool")) lNil))) [.dat (whD S ks w T), .dat (.int k), .dat (tupI q), .dead, .dat (.lst ((q :: r).map (pairD k))), .dead, .dead, .dead] hs = some (.lst (q.map fun _ => D.bl false), hs) := cq
    simp only [x_if, x_or, x_bof, x_bin, x_fn, x_cons, x_nil, x_var, x_c, List.getElem?_cons_succ, List.getElem?_cons_zero, Option.bind_some, Option.map_some, d0, dEqX_int, hl, decide_false, Bool.false_eq_true, if_false, cq2, da, x_next]
  rw [seq_nx ifn]
  have e := ev_check_calm (c := c) (hs := hs) h
  cases hu : uncalm S w ks with
  | some j =>
    rw [hu] at e
    simp only [x_seq, sCallX, x_cons, x_nil, x_var, List.getElem?_cons_zero, Option.bind_some, Option.map_some, e]
  | none =>
    rw [hu] at e
    have e2 : sCallX (G_check_calm c) (lCons (eVar 0) lNil) [.dat (whD S ks w T), .dat (.int k), .dat (tupI q), .dead, .dat (.lst ((q :: r).map (pairD k))), .dead, .dead, .dead] hs = some (.nx [.dat (whD S ks w T), .dat (.int k), .dat (tupI q), .dead, .dat (.lst ((q :: r).map (pairD k))), .dead, .dead, .dead], hs) := by
      simp only [sCallX, x_cons, x_nil, x_var, List.getElem?_cons_zero, Option.bind_some, Option.map_some, e]
    rw [seq_nx e2]
    have eq := ev_quotients (c := c) (hs := hs) (S := S) (w := w) (T := T) (ks := ks) (p := q) (o := more k q) h.sz h.nd (by have := h.few; omega) h.cnd h.T0 h.T1 h.wb (fun ct hct => ⟨h.full ct hct q hq, h.full ct hct _ hm⟩)
    have i0 : dIx (.lst ((q :: r).map (pairD k))) (.int 0) = some (pairD k q) := by
      have : ((q :: r).map (pairD k))[((0 : Int)).toNat]? = some (pairD k q) := by simp
      exact ix_int (by omega) this
    have i1 : dIx (pairD k q) (.int 0) = some (tupI q) := rfl
    have i2 : dIx (pairD k q) (.int 1) = some (tupI (more k q)) := rfl
    rw [seq_nx (Γ' := [.dat (whD S ks w T), .dat (.int k), .dat (tupI q), .dat (.dic true ((conts S).map fun ct => (tupI ct, frD (quo w q (more k q) ct)))), .dat (.lst ((q :: r).map (pairD k))), .dead, .dead, .dead]) (hs' := hs) (by
      simp only [x_asg, x_call, x_cons, x_nil, x_bin, x_var, x_c, List.getElem?_cons_succ, List.getElem?_cons_zero, Option.bind_some, Option.map_some, i0, i1, i2, eq]
      rfl)]
    have ix : ∀ a ∈ conts S, dIxN (.dic true ((conts S).map fun ct => (tupI ct, frD (quo w q (more k q) ct)))) (tupI a) = some (frD (quo w q (more k q) a)) := fun a ha => by
      have look := lookD_map (enc := tupI) (fun a b => tupK_inj) (fun ct => frD (quo w q (more k q) ct)) a (conts S)
      rw [if_pos ha] at look
      have hk8 : kOk 8 (tupI a) = true := kOk_tupI 7 _
      unfold dIxN tupI at *
      simp only [hk8, if_true]
      exact look
    have df := dc_fold (gd := gd1 6) (ke := eCall (G_without c) (lCons (eVar 6) (lCons (eVar 1) lNil))) (ve := eBin dIxN (eVar 3) (eVar 6)) (Γ := [.dat (whD S ks w T), .dat (.int k), .dat (tupI q), .dat (.dic true ((conts S).map fun ct => (tupI ct, frD (quo w q (more k q) ct)))), .dat (.lst ((q :: r).map (pairD k))), .dead, .dead, .dead]) (hs := hs) tupI (fun ct => wo k ct) (fun ct => frD (quo w q (more k q) ct)) (conts S) [] (fun ct hct => by
      have wt := ev_without (c := c) (hs := hs) (ct := ct) (k := k) (by have := conts_len hct; have := h.sz.len; omega)
      have := ix ct hct
      exact ⟨[.dat (whD S ks w T), .dat (.int k), .dat (tupI q), .dat (.dic true ((conts S).map fun ct => (tupI ct, frD (quo w q (more k q) ct)))), .dat (.lst ((q :: r).map (pairD k))), .dead, .dat (tupI ct), .dead], rfl, by simp [wt], by simp [this]⟩)
    have hk : ((conts S).map fun ct => (tupI ct, frD (quo w q (more k q) ct))).map (·.1) = (conts S).map tupI := by simp
    have hcl : ((conts S).map tupI).length < 100000 := by rw [List.length_map]; have := h.sz.card; omega
    unfold sRetDc rDcN
    rw [if_pos (show deadAll _ [6] = true from rfl)]
    have src : lItemsK (eVar 3) [.dat (whD S ks w T), .dat (.int k), .dat (tupI q), .dat (.dic true ((conts S).map fun ct => (tupI ct, frD (quo w q (more k q) ct)))), .dat (.lst ((q :: r).map (pairD k))), .dead, .dead, .dead] hs = some ((conts S).map tupI, hs) := by
      unfold lItemsK
      simp only [x_var, List.getElem?_cons_succ, List.getElem?_cons_zero, Option.bind_some, hk]
    rw [src]
    simp only [Option.bind_some]
    rw [if_pos hcl, df]
    rfl
def oddsR (S : List Int) (ks : List KY) (w : KY → Int) (x : D) (y : PatD) : Res := match x, y with
  | .int i, .nums q => if isCol S.length (.int i) = true then (if q ∈ famS ks ∧ pairOk i (famS ks) q = true then (match uncalm S w ks with | some j => .exc (.notCalm (j : Nat)) | none => .retO (.dic false (tdict S w i.toNat q))) else .exc .noPat) else .exc .noCol
  | x, _ => if isCol S.length x = true then .exc .noPat else .exc .noCol
theorem ev_odds {c : Cf} {hs : HS} {S : List Int} {ks : List KY} {w : KY → Int} {T : Int} {x : D} {y : PatD} (h : WhOk S w T ks) (hx : askD x = true) (hy : y.okP) : G_odds c [whD S ks w T, x, y.d] hs = some (oddsR S ks w x y, hs) := by
  cases hc : isCol S.length x with
  | false =>
    rw [odds_col hx hc]
    unfold oddsR
    split
    · rw [hc]; rfl
    · rw [hc]; rfl
  | true =>
    obtain ⟨i, rfl⟩ : ∃ i, x = .int i := by cases x <;> first | (simp [isCol] at hc; done) | exact ⟨_, rfl⟩
    have hi : 0 ≤ i ∧ i ≤ (S.length : Int) - 1 := by simpa [isCol] using hc
    obtain ⟨k, rfl⟩ : ∃ k : Nat, i = k := ⟨i.toNat, by omega⟩
    refine fnX_eq rfl ?_
    show (dn_odds c [.dat (whD S ks w T), .dat (.int k), .dat y.d, .dead, .dead, .dead, .dead, .dead] hs).map nxNon = _
    rw [odds_step h (by omega) hy]
    unfold oddsR
    cases y with
    | nums q =>
      simp only [hc, if_true]
      by_cases hq : q ∈ famS ks ∧ pairOk k (famS ks) q = true
      · rw [if_pos hq]
        obtain ⟨r, hr⟩ := sel_yes hq.1 hq.2
        have hm : more k q ∈ famS ks := by
          have : ¬ (k : Int) ∈ q ∧ more k q ∈ famS ks := by simpa [pairOk] using hq.2
          exact this.2
        rw [hr]
        have e := oddsT_go (c := c) (hs := hs) (k := k) (r := r) h hq.1 hm
        rw [show PatD.d (.nums q) = tupI q from rfl, e]
        cases uncalm S w ks <;> rfl
      · rw [if_neg hq, sel_no hq, List.map_nil, oddsT_nil]; rfl
    | bl1 b =>
      rw [oddsT_bl]
      simp only [hc, if_true]; rfl
    | str1 z => rw [sel_other (fun p => rfl), List.map_nil, oddsT_nil]; simp only [hc, if_true]; rfl
    | tup0 => rw [sel_other (fun p => rfl), List.map_nil, oddsT_nil]; simp only [hc, if_true]; rfl
    | other z => rw [sel_other (fun p => rfl), List.map_nil, oddsT_nil]; simp only [hc, if_true]; rfl
end Dl
/-! what is told. -/
namespace Dl
open PySem PySem.Spec PyProof.Rows L2
/-- what must be told -/
def dueD (S : List Int) (ks : List KY) (w : KY → Int) (x : D) (y : PatD) (z : Bool) : D := match oddsR S ks w x y with
  | .retO (.dic _ kvs) => .tup [.str "told", .dic z kvs]
  | .exc .noCol => .tup [.str "refused", .str "column", .non]
  | .exc .noPat => .tup [.str "refused", .str "pattern", .non]
  | .exc (.notCalm i) => .tup [.str "refused", .str "calm", .int i]
  | _ => .non
def toldR (S : List Int) (ks : List KY) (w : KY → Int) (x : D) (y : PatD) : Res := match oddsR S ks w x y with
  | .retO (.dic z kvs) => .retO (.tup [.str "told", .dic z kvs])
  | .exc .noCol => .ret (.tup [.str "refused", .str "column", .non])
  | .exc .noPat => .ret (.tup [.str "refused", .str "pattern", .non])
  | .exc (.notCalm i) => .ret (.tup [.str "refused", .str "calm", .int i])
  | _ => .ret .non
theorem oddsR_cases (S : List Int) (ks : List KY) (w : KY → Int) (x : D) (y : PatD) : oddsR S ks w x y = .exc .noCol ∨ oddsR S ks w x y = .exc .noPat ∨ (∃ j : Nat, oddsR S ks w x y = .exc (.notCalm j)) ∨ ∃ k q, oddsR S ks w x y = .retO (.dic false (tdict S w k q)) := by
  unfold oddsR
  split
  · split
    · split
      · split
        · exact .inr (.inr (.inl ⟨_, rfl⟩))
        · exact .inr (.inr (.inr ⟨_, _, rfl⟩))
      · exact .inr (.inl rfl)
    · exact .inl rfl
  · split
    · exact .inr (.inl rfl)
    · exact .inl rfl
theorem ev_told {c : Cf} {hs : HS} {S : List Int} {ks : List KY} {w : KY → Int} {T : Int} {x : D} {y : PatD} (h : WhOk S w T ks) (hx : askD x = true) (hy : y.okP) : toldX (G_odds c) [whD S ks w T, x, y.d] hs = some (toldR S ks w x y, hs) := by
  unfold toldX
  rw [if_pos (show [whD S ks w T, x, y.d].length = 3 from rfl), ev_odds h hx hy]
  unfold toldR
  rcases oddsR_cases S ks w x y with e | e | ⟨j, e⟩ | ⟨k, q, e⟩ <;> rw [e] <;> rfl
end Dl
/-! the whole's own ==. -/
namespace Dl
open PySem PySem.Spec PyProof.Rows L2
theorem pOk_keyD (k : KY) : pOk (keyD k) = true := by
  unfold keyD
  rw [pOk, pOks, pOks, pOks, pOk_tupI, pOk_tupI]; rfl
theorem pOk_frD (q : Int × Int) : pOk (frD q) = true := by
  unfold frD
  simp [pOk, pOks]
theorem lay_keyD (k : KY) : (toPy (keyD k)).canLay0 = true := by
  unfold keyD
  rw [toPy, toPys, toPys, toPys, PyData.canLay0, PyData.canLayAll0, PyData.canLayAll0, PyData.canLayAll0, canLay_tupI, canLay_tupI]; rfl
theorem lay_frD (q : Int × Int) : (toPy (frD q)).canLay0 = true := by
  unfold frD
  simp [toPy, toPys, PyData.canLay0, PyData.canLayAll0]
theorem depth_keyD (k : KY) : (toPy (keyD k)).depth = 2 := by
  unfold keyD
  rw [toPy, toPys, toPys, toPys, PyData.depth, PyData.depthAll, PyData.depthAll, PyData.depthAll, depth_tupI, depth_tupI]; rfl
theorem depth_frD (q : Int × Int) : (toPy (frD q)).depth = 1 := by
  unfold frD
  simp [toPy, toPys, PyData.depth, PyData.depthAll]
theorem ok_of {d : D} (h1 : pOk d = true) (h2 : (toPy d).canLay0 = true) (h3 : (toPy d).depth ≤ 64) : ok d = true := by
  unfold ok SeqAt.shaped
  rw [h1, h2]
  simpa using h3
theorem ok_keyD (k : KY) : ok (keyD k) = true := ok_of (pOk_keyD k) (lay_keyD k) (by rw [depth_keyD]; omega)
theorem ok_frD (q : Int × Int) : ok (frD q) = true := ok_of (pOk_frD q) (lay_frD q) (by rw [depth_frD]; omega)
theorem pOk_row {w : KY → Int} {T : Int} (k : KY) : pOk (rowD w T k) = true := by
  unfold rowD
  rw [pOk, pOks, pOks, pOks, pOk_keyD, pOk_frD]; rfl
theorem lay_row {w : KY → Int} {T : Int} (k : KY) : (toPy (rowD w T k)).canLay0 = true := by
  unfold rowD
  rw [toPy, toPys, toPys, toPys, PyData.canLay0, PyData.canLayAll0, PyData.canLayAll0, PyData.canLayAll0, lay_keyD, lay_frD]; rfl
theorem depth_row {w : KY → Int} {T : Int} (k : KY) : (toPy (rowD w T k)).depth = 3 := by
  unfold rowD
  rw [toPy, toPys, toPys, toPys, PyData.depth, PyData.depthAll, PyData.depthAll, PyData.depthAll, depth_keyD, depth_frD]; rfl
theorem rows_all {w : KY → Int} {T : Int} : ∀ ks : List KY, pOks (ks.map (rowD w T)) = true ∧ PyData.canLayAll0 (toPys (ks.map (rowD w T))) = true ∧ PyData.depthAll (toPys (ks.map (rowD w T))) ≤ 3
  | [] => by simp [pOks, toPys, PyData.canLayAll0, PyData.depthAll]
  | k :: ks => by
    obtain ⟨h1, h2, h3⟩ := rows_all (w := w) (T := T) ks
    rw [List.map_cons, pOks, toPys, PyData.canLayAll0, PyData.depthAll, h1, h2, pOk_row, lay_row, depth_row]
    exact ⟨rfl, rfl, by omega⟩
theorem ok_pair {S : List Int} {w : KY → Int} {T : Int} {ks : List KY} : ok (.tup [tupI S, .ptup (ks.map (rowD w T))]) = true := by
  obtain ⟨h1, h2, h3⟩ := rows_all (w := w) (T := T) ks
  refine ok_of ?_ ?_ ?_
  · rw [pOk, pOks, pOks, pOks, pOk_tupI, pOk, h1]; rfl
  · rw [toPy, toPys, toPys, toPys, PyData.canLay0, PyData.canLayAll0, PyData.canLayAll0, PyData.canLayAll0, canLay_tupI, toPy, PyData.canLay0, h2]; rfl
  · rw [toPy, toPys, toPys, toPys, PyData.depth, PyData.depthAll, PyData.depthAll, PyData.depthAll, depth_tupI, toPy, PyData.depth]
    omega
theorem ev_eqS {c : Cf} {hs : HS} {S : List Int} {w : KY → Int} {T : Int} {ks : List KY} : G_eq c [whD S ks w T, whD S ks w T] hs = some (.bl true, hs) := by
  refine fn_ret rfl ?_
  unfold dn_eq
  show sRet _ [.dat (whD S ks w T), .dat (whD S ks w T)] hs = _
  have e : dIsi c [whD S ks w T, .cls c.C] = some (.bl true) := by simp [whD, dIsi]
  have o := ok_pair (S := S) (w := w) (T := T) (ks := ks)
  have hp : pOk (.tup [tupI S, .ptup (ks.map (rowD w T))]) = true := by
    unfold ok at o
    rw [Bool.and_eq_true] at o
    exact o.1
  have d : dEqX (.tup [tupI S, .ptup (ks.map (rowD w T))]) (.tup [tupI S, .ptup (ks.map (rowD w T))]) = some (.bl true) := by
    rw [dEqX_ok (.inr (by intro z k h; cases h)) o o, eqv_self hp]
  have f1 : ∀ Γ : Env, eFld (eVar 0) true [.dat (whD S ks w T), .dat (whD S ks w T)] hs = some (tupI S, hs) := fun _ => by simp [eFld, whD]
  have f2 : ∀ Γ : Env, eFld (eVar 0) false [.dat (whD S ks w T), .dat (whD S ks w T)] hs = some (.ptup (ks.map (rowD w T)), hs) := fun _ => by simp [eFld, whD]
  have f3 : ∀ Γ : Env, eFld (eVar 1) true [.dat (whD S ks w T), .dat (whD S ks w T)] hs = some (tupI S, hs) := fun _ => by simp [eFld, whD]
  have f4 : ∀ Γ : Env, eFld (eVar 1) false [.dat (whD S ks w T), .dat (whD S ks w T)] hs = some (.ptup (ks.map (rowD w T)), hs) := fun _ => by simp [eFld, whD]
  simp [e, f1 [], f2 [], f3 [], f4 [], d]
theorem ev_neW {c : Cf} {hs : HS} {S : List Int} {w : KY → Int} {T : Int} {ks : List KY} : neW (G_eq c) (whD S ks w T) (whD S ks w T) hs = some (.bl false, hs) := by
  have e := ev_eqS (c := c) (hs := hs) (S := S) (w := w) (T := T) (ks := ks)
  unfold whD at *
  show (G_eq c [.obj (tupI S) (.ptup (ks.map (rowD w T))), .obj (tupI S) (.ptup (ks.map (rowD w T)))] hs).bind notBl = _
  rw [e]
  rfl
end Dl
/-! the contents: which, in what order. -/
namespace Dl
open PySem PySem.Spec PyProof.Rows L2
def cns : List Int → List (List Int)
  | [] => [[]]
  | s :: ss => (List.range s.toNat).flatMap fun (w : Nat) => (cns ss).map ((w : Int) :: ·)
theorem cts_cns : ∀ (ss : List Int) (acc : List (List Int)), cts ss acc = acc.flatMap fun f => (cns ss).map (f ++ ·)
  | [], acc => by
    simp only [cts, cns, List.map_cons, List.map_nil, List.append_nil]
    induction acc with
    | nil => rfl
    | cons a acc ih => rw [List.flatMap_cons, ← ih]; rfl
  | s :: ss, acc => by
    rw [cts, cts_cns ss, List.flatMap_assoc]
    congr 1
    funext f
    unfold ext1
    rw [cns, List.flatMap_map, List.map_flatMap]
    congr 1
    funext w
    rw [List.map_map]
    congr 1
    funext x
    simp
theorem conts_cns (S : List Int) : conts S = cns S := by
  unfold conts
  rw [cts_cns]
  simp
theorem mem_cns : ∀ {ss ws : List Int}, ws ∈ cns ss ↔ inS ws ss = true
  | [], ws => by
    simp only [cns, List.mem_singleton]
    cases ws <;> simp [inS]
  | s :: ss, ws => by
    simp only [cns, List.mem_flatMap, List.mem_map, List.mem_range]
    constructor
    · rintro ⟨n, hn, x, hx, rfl⟩
      have := mem_cns.mp hx
      simp only [inS, this, Bool.and_true, Bool.and_eq_true, decide_eq_true_eq]
      omega
    · intro h
      cases ws with
      | nil => cases h
      | cons x xs =>
        have h' : (0 ≤ x ∧ x ≤ s - 1) ∧ inS xs ss = true := by simpa [inS] using h
        refine ⟨x.toNat, by omega, xs, mem_cns.mpr h'.2, ?_⟩
        rw [Int.toNat_of_nonneg h'.1.1]
theorem mem_conts {S ws : List Int} : ws ∈ conts S ↔ inS ws S = true := by rw [conts_cns]; exact mem_cns
theorem cns_lt : ∀ ss : List Int, (cns ss).Pairwise (· < ·)
  | [] => by simp [cns]
  | s :: ss => by
    rw [cns, List.pairwise_flatMap]
    refine ⟨fun n _ => ?_, ?_⟩
    · rw [List.pairwise_map]
      exact (cns_lt ss).imp fun {a b} h => List.cons_lt_cons_iff.mpr (.inr ⟨rfl, h⟩)
    · refine List.pairwise_lt_range.imp fun {a b} h => ?_
      intro x hx y hy
      obtain ⟨x', _, rfl⟩ := List.mem_map.mp hx
      obtain ⟨y', _, rfl⟩ := List.mem_map.mp hy
      exact List.cons_lt_cons_iff.mpr (.inl (by omega))
theorem conts_lt (S : List Int) : (conts S).Pairwise (· < ·) := by rw [conts_cns]; exact cns_lt S
theorem lt_irr (a : List Int) : ¬ a < a := List.lt_irrefl a
theorem nodup_of_lt {l : List (List Int)} (h : l.Pairwise (· < ·)) : l.Nodup := h.imp fun {a b} h e => by subst e; exact lt_irr _ h
theorem conts_nodup (S : List Int) : (conts S).Nodup := nodup_of_lt (conts_lt S)
theorem conts_pos {S : List Int} (h : Sz S) : conts S ≠ [] := by
  have : ∀ ss : List Int, (∀ s ∈ ss, 2 ≤ s ∧ s ≤ 4) → inS (ss.map fun _ => 0) ss = true := by
    intro ss
    induction ss with
    | nil => intro _; rfl
    | cons s ss ih =>
      intro h
      have := h s List.mem_cons_self
      simp only [List.map_cons, inS, ih (fun x hx => h x (List.mem_cons_of_mem _ hx)), Bool.and_true, Bool.and_eq_true, decide_eq_true_eq]
      omega
  intro e
  have m := mem_conts.mpr (this S h.pos)
  rw [e] at m
  cases m
end Dl
/-! the keys: contents with patterns, in order. -/
namespace Dl
open PySem PySem.Spec PyProof.Rows L2
def klt (a b : KY) : Prop := a.1 < b.1 ∨ (a.1 = b.1 ∧ a.2 < b.2)
def prodK (S : List Int) (F : List (List Int)) : List KY := (conts S).flatMap fun ct => F.map fun p => (ct, p)
theorem mem_prodK {S : List Int} {F : List (List Int)} {k : KY} : k ∈ prodK S F ↔ k.1 ∈ conts S ∧ k.2 ∈ F := by
  unfold prodK
  simp only [List.mem_flatMap, List.mem_map]
  constructor
  · rintro ⟨ct, h1, p, h2, rfl⟩; exact ⟨h1, h2⟩
  · rintro ⟨h1, h2⟩; exact ⟨k.1, h1, k.2, h2, rfl⟩
theorem prodK_klt {S : List Int} {F : List (List Int)} (hF : F.Pairwise (· < ·)) : (prodK S F).Pairwise klt := by
  unfold prodK
  rw [List.pairwise_flatMap]
  refine ⟨fun ct _ => ?_, ?_⟩
  · rw [List.pairwise_map]
    exact hF.imp fun {a b} h => .inr ⟨rfl, h⟩
  · refine (conts_lt S).imp fun {a b} h => ?_
    intro x hx y hy
    obtain ⟨x', _, rfl⟩ := List.mem_map.mp hx
    obtain ⟨y', _, rfl⟩ := List.mem_map.mp hy
    exact .inl h
theorem klt_irr (a : KY) : ¬ klt a a := fun h => h.elim (lt_irr _) fun z => lt_irr _ z.2
theorem prodK_nodup {S : List Int} {F : List (List Int)} (hF : F.Pairwise (· < ·)) : (prodK S F).Nodup := (prodK_klt hF).imp fun {a b} h e => by subst e; exact klt_irr _ h
theorem prodK_len (S : List Int) (F : List (List Int)) : (prodK S F).length = (conts S).length * F.length := by
  unfold prodK
  induction conts S with
  | nil => simp
  | cons a l ih => simp [List.flatMap_cons, ih, Nat.add_mul, Nat.add_comm]
theorem data_tupI (a b : List Int) : PySem.W.dataLt (toPy (tupI a)) (toPy (tupI b)) = decide (a < b) := by
  rw [toPy_tupI, toPy_tupI, PySem.W.dataLt_tuple]
  have := PySem.W.dataLt_ints a b
  unfold PySem.W.rowLt at this
  exact this
theorem toPy_keyD (k : KY) : toPy (keyD k) = .tuple [toPy (tupI k.1), toPy (tupI k.2)] := by
  unfold keyD
  rw [toPy, toPys, toPys, toPys]
theorem data_keyD (a b : KY) : PySem.W.dataLt (toPy (keyD a)) (toPy (keyD b)) = if a.1 = b.1 then decide (a.2 < b.2) else decide (a.1 < b.1) := by
  rw [toPy_keyD, toPy_keyD, PySem.W.dataLt_pair (alike_tupI _ _) (alike_tupI _ _), eqv_tupI, eqv_tupI, data_tupI, data_tupI]
  by_cases h1 : a.1 = b.1
  · simp only [h1, decide_true, if_true]
    by_cases h2 : a.2 = b.2
    · simp only [h2, decide_true, if_true]
      exact (decide_eq_false (lt_irr _)).symm
    · simp [h2]
  · simp [h1]
theorem data_klt {a b : KY} (h : klt a b) : PySem.W.dataLt (toPy (keyD a)) (toPy (keyD b)) = true := by
  rw [data_keyD]
  rcases h with h | ⟨h1, h2⟩
  · have : a.1 ≠ b.1 := fun e => by rw [e] at h; exact lt_irr _ h
    rw [if_neg this]; exact decide_eq_true h
  · rw [if_pos h1]; exact decide_eq_true h2
theorem data_klt' {a b : KY} (h : klt a b) : PySem.W.dataLt (toPy (keyD b)) (toPy (keyD a)) = false := by
  rw [data_keyD]
  rcases h with h | ⟨h1, h2⟩
  · have : b.1 ≠ a.1 := fun e => by rw [e] at h; exact lt_irr _ h
    rw [if_neg this]; exact decide_eq_false (fun z => lt_irr _ (List.lt_trans h z))
  · rw [if_pos h1.symm]; exact decide_eq_false (fun z => lt_irr _ (List.lt_trans h2 z))
theorem alike_keyD (a b : KY) : PySem.W.alike (toPy (keyD a)) (toPy (keyD b)) = true := by
  rw [toPy_keyD, toPy_keyD, PySem.W.alike]
  simp [PySem.W.alikeAll, alike_tupI]
theorem lt_keyD {a b : KY} (h : klt a b) : dLtU (keyD a) (keyD b) = some (.bl true) := by
  have h1 := ok_keyD a
  have h2 := ok_keyD b
  have h3 := alike_keyD a b
  have h4 := data_klt h
  have e : dLtU (keyD a) (keyD b) = dLtT (keyD a) (keyD b) := rfl
  rw [e]
  unfold dLtT
  unfold keyD at *
  simp only [h1, h2, h3, h4, and_self, if_true]
theorem up_of : ∀ (ks : List KY), ks.Pairwise klt → (∀ l, (∀ k ∈ ks, klt l k) → upK (some l) ks) ∧ upK none ks
  | [], _ => ⟨fun _ _ => trivial, trivial⟩
  | k :: ks, h => by
    obtain ⟨h1, h2⟩ := List.pairwise_cons.mp h
    obtain ⟨g1, _⟩ := up_of ks h2
    exact ⟨fun l hl => ⟨lt_keyD (hl k List.mem_cons_self), g1 k h1⟩, g1 k h1⟩
theorem sortD_keys {ks : List KY} (h : ks.Pairwise klt) : sortD (ks.map keyD) = ks.map keyD := by
  unfold sortD
  refine List.mergeSort_of_pairwise ?_
  rw [List.pairwise_map]
  refine h.imp fun {a b} h => ?_
  show (!PySem.W.dataLt (toPy (keyD b)) (toPy (keyD a))) = true
  rw [data_klt' h]; rfl
theorem sortOk_keys {ks : List KY} (h : ks.length ≤ 100000) : sortOk (ks.map keyD) = true := by
  unfold sortOk
  simp only [Bool.and_eq_true, List.all_eq_true, decide_eq_true_eq, Bool.or_eq_true, List.mem_map, forall_exists_index, and_imp, forall_apply_eq_imp_iff₂, List.length_map]
  refine ⟨⟨⟨⟨fun p _ => pOk_keyD p, fun p _ q _ => alike_keyD p q⟩, .inl fun p _ => rfl⟩, fun p _ => by rw [depth_keyD]; decide⟩, h⟩
/-- weights as a dict -/
def wD (z : Bool) (ks : List KY) (w : KY → Int) : D := .dic z (ks.map fun k => (keyD k, .int (w k)))
theorem sorted_wD {z : Bool} {ks : List KY} {w : KY → Int} (h : ks.Pairwise klt) (hl : ks.length ≤ 100000) : dSorted [wD z ks w] = some (.lst (ks.map keyD)) := by
  have hk : (ks.map fun k => (keyD k, D.int (w k))).map (·.1) = ks.map keyD := by simp
  unfold dSorted wD
  simp only [seqItems, Option.bind_some, hk]
  rw [if_pos (sortOk_keys hl), sortD_keys h]
theorem ix_wD {z : Bool} {ks : List KY} {w : KY → Int} {k : KY} (h : k ∈ ks) : dIxN (wD z ks w) (keyD k) = some (.int (w k)) := by
  have look := lookD_map (enc := keyD) (fun a b => keyD_inj) (fun k => D.int (w k)) k ks
  rw [if_pos h] at look
  have hk8 := kOk_keyD k
  unfold dIxN wD keyD at *
  simp only [hk8, if_true]
  exact look
end Dl
/-! both tests for calm name the same column. -/
namespace Dl
open PySem PySem.Spec PyProof.Rows L2
theorem getD_at {a : List Int} {k : Nat} (h : k < a.length) : a.getD k 0 = a[k] := by simp [List.getD, h]
theorem split_at {a : List Int} {k : Nat} (h : k < a.length) : a = a.take k ++ a.getD k 0 :: a.drop (k + 1) := by
  have := List.take_append_drop k a
  rw [List.drop_eq_getElem_cons h] at this
  rw [getD_at h]
  exact this.symm
def stC (k : Nat) (v : Int) (a : List Int) : List Int := a.take k ++ v :: a.drop (k + 1)
theorem pre_lt (p : List Int) {a b : List Int} : p ++ a < p ++ b ↔ a < b := by
  induction p with
  | nil => exact Iff.rfl
  | cons x p ih =>
    rw [List.cons_append, List.cons_append, List.cons_lt_cons_iff, ih]
    constructor
    · rintro (h | h)
      · exact absurd h (Int.lt_irrefl x)
      · exact h.2
    · exact fun h => .inr ⟨rfl, h⟩
theorem inS_get : ∀ {a S : List Int} {k : Nat}, inS a S = true → k < S.length → 0 ≤ a.getD k 0 ∧ a.getD k 0 ≤ S.getD k 0 - 1
  | [], [], k, _, h => by simp at h
  | x :: a, s :: S, k, h, hk => by
    have h' : (0 ≤ x ∧ x ≤ s - 1) ∧ inS a S = true := by simpa [inS] using h
    cases k with
    | zero => simpa using h'.1
    | succ k =>
      have := inS_get (k := k) h'.2 (by simpa using hk)
      simpa using this
  | [], _ :: _, _, h, _ => by cases h
  | _ :: _, [], _, h, _ => by cases h
theorem inS_st : ∀ {a S : List Int} {k : Nat} {v : Int}, inS a S = true → k < S.length → 0 ≤ v → v ≤ S.getD k 0 - 1 → inS (stC k v a) S = true
  | [], [], k, _, _, h, _, _ => by simp at h
  | x :: a, s :: S, k, v, h, hk, h0, h1 => by
    have h' : (0 ≤ x ∧ x ≤ s - 1) ∧ inS a S = true := by simpa [inS] using h
    cases k with
    | zero =>
      have h1' : v ≤ s - 1 := by simpa using h1
      simp [stC, inS, h'.2, h0, h1']
    | succ k =>
      have := inS_st (k := k) h'.2 (by simpa using hk) h0 (by simpa using h1)
      unfold stC at this
      simp [stC, inS, this, h'.1.1, h'.1.2]
  | [], _ :: _, _, _, h, _, _, _ => by cases h
  | _ :: _, [], _, _, h, _, _, _ => by cases h
theorem wo_st {k : Nat} {v : Int} {a : List Int} (h : k < a.length) : wo k (stC k v a) = wo k a := by
  unfold wo stC
  have hl : (a.take k).length = k := by rw [List.length_take]; omega
  have e1 : (a.take k ++ v :: a.drop (k + 1)).take k = a.take k := by
    rw [List.take_append_of_le_length (by omega), List.take_take]; simp
  have e2 : (a.take k ++ v :: a.drop (k + 1)).drop (k + 1) = a.drop (k + 1) := by
    rw [List.drop_append, hl]
    rw [List.drop_eq_nil_of_le (by omega)]
    simp
  rw [e1, e2]
theorem st_lt {k : Nat} {v : Int} {a : List Int} (h : k < a.length) (hv : a.getD k 0 < v) : a < stC k v a := by
  have e := split_at h
  have : a.take k ++ a.getD k 0 :: a.drop (k + 1) < a.take k ++ v :: a.drop (k + 1) := by
    rw [pre_lt, List.cons_lt_cons_iff]
    exact .inl hv
  unfold stC
  rw [← e] at this
  exact this
theorem of_wo {k : Nat} {a b : List Int} (ha : k < a.length) (hb : k < b.length) (h : wo k a = wo k b) (hlt : a < b) : b = stC k (b.getD k 0) a ∧ a.getD k 0 < b.getD k 0 := by
  unfold wo at h
  rw [List.append_assoc, List.append_assoc] at h
  have hl : (a.take k).length = (b.take k).length := by rw [List.length_take, List.length_take]; omega
  obtain ⟨h1, h2⟩ := List.append_inj h hl
  have h2' : a.drop (k + 1) = b.drop (k + 1) := by simpa using h2
  have eb := split_at hb
  have ea := split_at ha
  refine ⟨?_, ?_⟩
  · unfold stC
    rw [h1, h2']
    exact eb
  · rw [ea, eb, h1, h2', pre_lt, List.cons_lt_cons_iff] at hlt
    rcases hlt with z | z
    · exact z
    · exact absurd z.2 (lt_irr _)
def lBadAt (w : KY → Int) (k : Nat) (p ct : List Int) (v : Int) : Bool := !decide (w (ct, p) * w (stC k v ct, more k p) = w (stC k v ct, p) * w (ct, more k p))
def lBadC (S : List Int) (w : KY → Int) (k : Nat) (p ct : List Int) : Bool := (List.range (S.getD k 0 - (ct.getD k 0 + 1)).toNat).any fun (i : Nat) => lBadAt w k p ct (ct.getD k 0 + 1 + (i : Int))
def lBadP (S : List Int) (w : KY → Int) (F : List (List Int)) (k : Nat) (p : List Int) : Bool := (if more k p ∈ F then conts S else []).any (lBadC S w k p)
def lBadCol (S : List Int) (w : KY → Int) (F : List (List Int)) (k : Nat) : Bool := (F.filter fun p => !decide ((k : Int) ∈ p)).any (lBadP S w F k)
theorem fam_prod {S : List Int} {F : List (List Int)} (hS : Sz S) {p : List Int} : p ∈ famS (prodK S F) ↔ p ∈ F := by
  rw [famS_mem]
  constructor
  · rintro ⟨k, hk, rfl⟩; exact (mem_prodK.mp hk).2
  · intro h
    cases hc : conts S with
    | nil => exact (conts_pos hS hc).elim
    | cons a l => exact ⟨(a, p), mem_prodK.mpr ⟨by rw [hc]; simp, h⟩, rfl⟩
theorem bad_iff {S : List Int} {w : KY → Int} {F : List (List Int)} {k : Nat} (hS : Sz S) (hk : k < S.length) (hw : ∀ q ∈ prodK S F, 0 < w q) : lBadCol S w F k = badCol S w (prodK S F) k := by
  rw [Bool.eq_iff_iff]
  unfold lBadCol badCol
  simp only [List.any_eq_true, List.mem_filter]
  constructor
  · rintro ⟨p, ⟨hp, hkp⟩, hb⟩
    have hkp' : ¬ (k : Int) ∈ p := by simpa using hkp
    unfold lBadP at hb
    by_cases hm : more k p ∈ F
    · rw [if_pos hm, List.any_eq_true] at hb
      obtain ⟨ct, hct, hb⟩ := hb
      unfold lBadC at hb
      rw [List.any_eq_true] at hb
      obtain ⟨i, hi, hb⟩ := hb
      have hi' := List.mem_range.mp hi
      have hin := mem_conts.mp hct
      have hg := inS_get hin hk
      have hl := inS_len hin
      have hv1 : ct.getD k 0 < ct.getD k 0 + 1 + (i : Int) := by omega
      have hv2 : ct.getD k 0 + 1 + (i : Int) ≤ S.getD k 0 - 1 := by omega
      generalize ct.getD k 0 + 1 + (i : Int) = v at hb hv1 hv2
      have hin2 := inS_st hin hk (v := v) (by omega) hv2
      have hc2 := mem_conts.mpr hin2
      refine ⟨p, ⟨(fam_prod hS).mpr hp, ?_⟩, ?_⟩
      · simp [pairOk, hkp', (fam_prod (F := F) hS).mpr hm]
      · unfold badIn
        rw [List.any_eq_true]
        refine ⟨ct, cS_mem.mpr hct, ?_⟩
        rw [List.any_eq_true]
        refine ⟨stC k v ct, cS_mem.mpr hc2, ?_⟩
        have hne : ¬ quo w p (more k p) ct = quo w p (more k p) (stC k v ct) := fun e => by
          have := low_cross_of (hw (ct, more k p) (mem_prodK.mpr ⟨hct, hm⟩)) (hw (stC k v ct, more k p) (mem_prodK.mpr ⟨hc2, hm⟩)) e
          unfold lBadAt at hb
          rw [this] at hb
          simp at hb
        unfold badAt
        rw [wo_st (by omega)]
        simp [hne, st_lt (show k < ct.length by omega) hv1]
    · rw [if_neg hm] at hb; simp at hb
  · rintro ⟨p, ⟨hp, hpo⟩, hb⟩
    have hpo' : ¬ (k : Int) ∈ p ∧ more k p ∈ famS (prodK S F) := by simpa [pairOk] using hpo
    have hp' := (fam_prod hS).mp hp
    have hm := (fam_prod hS).mp hpo'.2
    unfold badIn at hb
    rw [List.any_eq_true] at hb
    obtain ⟨a, ha, hb⟩ := hb
    rw [List.any_eq_true] at hb
    obtain ⟨b, hb2, hb⟩ := hb
    have hac := cS_mem.mp ha
    have hbc := cS_mem.mp hb2
    have hb' : (a < b ∧ wo k a = wo k b) ∧ ¬ quo w p (more k p) a = quo w p (more k p) b := by simpa [badAt] using hb
    obtain ⟨⟨h1, h2⟩, h3⟩ := hb'
    have la := conts_len hac
    have lb := conts_len hbc
    obtain ⟨e, hlt⟩ := of_wo (by omega) (by omega) h2 h1
    have gb := inS_get (mem_conts.mp hbc) hk
    refine ⟨p, ⟨hp', by simp [hpo'.1]⟩, ?_⟩
    unfold lBadP
    rw [if_pos hm, List.any_eq_true]
    refine ⟨a, hac, ?_⟩
    unfold lBadC
    rw [List.any_eq_true]
    refine ⟨(b.getD k 0 - (a.getD k 0 + 1)).toNat, List.mem_range.mpr (by omega), ?_⟩
    have ev : a.getD k 0 + 1 + (((b.getD k 0 - (a.getD k 0 + 1)).toNat : Nat) : Int) = b.getD k 0 := by omega
    rw [ev]
    unfold lBadAt
    rw [← e]
    simp only [Bool.not_eq_true', decide_eq_false_iff_not]
    intro hx
    refine h3 ?_
    exact low_of_cross (hw (a, more k p) (mem_prodK.mpr ⟨hac, hm⟩)) (hw (b, more k p) (mem_prodK.mpr ⟨hbc, hm⟩)) hx
theorem uncalm_eq {S : List Int} {w : KY → Int} {F : List (List Int)} (hS : Sz S) (hw : ∀ q ∈ prodK S F, 0 < w q) : uncalm S w (prodK S F) = (List.range S.length).find? (lBadCol S w F) := by
  unfold uncalm
  have : ∀ l : List Nat, (∀ k ∈ l, k < S.length) → l.find? (badCol S w (prodK S F)) = l.find? (lBadCol S w F) := by
    intro l
    induction l with
    | nil => intro _; rfl
    | cons k l ih =>
      intro h
      rw [List.find?_cons, List.find?_cons, ih (fun j hj => h j (List.mem_cons_of_mem _ hj)), bad_iff hS (h k List.mem_cons_self) hw]
  exact this _ fun k hk => List.mem_range.mp hk
end Dl
/-! the law's own test for calm. -/
namespace Dl
open PySem PySem.Spec PyProof.Rows L2
theorem items_eq {f : EDn} {Γ : Env} {hs hs' : HS} {ds : List D} (h : f Γ hs = some (.lst ds, hs')) : lItemsL f Γ hs = some (ds, hs') := by
  unfold lItemsL
  rw [h]
  rfl
noncomputable def luA (c : Cf) : SDn :=
    (sSeq (sAsg 4 (eBin dAdd (eBin dAdd (eSlT (eVar 5) none (some (eVar 8))) (eTup (lCons (eVar 6) lNil))) (eSlT (eVar 5) (some (eBin dAdd (eVar 8) (eC (.int 1)))) none)))
    (sSeq (sAsg 3 (eBin dMul (eBin dIxN (eVar 2) (eTup (lCons (eVar 5) (lCons (eVar 7) lNil)))) (eBin dIxN (eVar 2) (eTup (lCons (eVar 4) (lCons (eVar 9) lNil))))))
    (sIf (bOf (eBin dNeU (eVar 3) (eBin dMul (eBin dIxN (eVar 2) (eTup (lCons (eVar 4) (lCons (eVar 7) lNil)))) (eBin dIxN (eVar 2) (eTup (lCons (eVar 5) (lCons (eVar 9) lNil)))))))
    (sRet (eTup (lCons (eVar 8) (lCons (eVar 7) (lCons (eVar 5) (lCons (eVar 4) lNil))))))
    sNext)))
noncomputable def luB (c : Cf) : SDn := sFor (lRng2 (eBin dAdd (eBin dIx (eVar 5) (eVar 8)) (eC (.int 1))) (eBin dIx (eVar 0) (eVar 8))) (gd1 6) (luA c)
noncomputable def luC (c : Cf) : SDn := sFor (lItemsL (eIf (bOf (eBin dIn (eVar 9) (eVar 1))) (eCall (G_law_contents c) (lCons (eVar 0) lNil)) (eLst lNil))) (gd1 5) (luB c)
noncomputable def luD (c : Cf) : SDn := sSeq (sAsg 9 (eFn dTuple (lCons (eFn dSorted (lCons (eBin dAdd (eVar 7) (eTup (lCons (eVar 8) lNil))) lNil)) lNil))) (luC c)
noncomputable def luE (c : Cf) : SDn := sG (killE 7) (sFor (lItemsL (eComp (lItemsL (eFn dSorted (lCons (eVar 1) lNil))) [7] (gd1 7) (bOf (eBin dNotIn (eVar 8) (eVar 7))) (eVar 7))) (gd1 7) (luD c))
theorem law_uncalm_eq (c : Cf) : dn_law_uncalm c = sSeq (sFor (lRng1 (eFn dLen (lCons (eVar 0) lNil))) (gd1 8) (luE c)) (sRet (eC .non)) := rfl
/-- the law's data -/
structure LwOk (S : List Int) (F : List (List Int)) (w : KY → Int) : Prop where
  sz : SzW S
  up : F.Pairwise (· < ·)
  ne : F ≠ []
  few : F.length ≤ 16
  lot : ∀ p ∈ F, lotOk S.length (-1) p = true
  pl : ∀ p ∈ F, p.length ≤ 4
  wb : ∀ k ∈ prodK S F, 0 < w k ∧ w k < (2 : Int) ^ 500
abbrev fD (F : List (List Int)) : D := .lst (F.map tupI)
abbrev keysW (S : List Int) (F : List (List Int)) (w : KY → Int) : D := wD true (prodK S F) w
theorem ev_luA {c : Cf} {hs : HS} {S : List Int} {F : List (List Int)} {w : KY → Int} (h : LwOk S F w) {k : Nat} (hk : k < S.length) {p ct : List Int} {v : Int} (hp : p ∈ F) (hm : more k p ∈ F) (hct : ct ∈ conts S) (hst : stC k v ct ∈ conts S) {y3 y4 : Sl} :
    luA c [.dat (tupI S), .dat (fD F), .dat (keysW S F w), y3, y4, .dat (tupI ct), .dat (.int v), .dat (tupI p), .dat (.int k), .dat (tupI (more k p))] hs = if lBadAt w k p ct v = true then some (.ret (.tup [.int k, tupI p, tupI ct, tupI (stC k v ct)]), hs) else some (.nx [.dat (tupI S), .dat (fD F), .dat (keysW S F w), .dat (.int (w (ct, p) * w (stC k v ct, more k p))), .dat (tupI (stC k v ct)), .dat (tupI ct), .dat (.int v), .dat (tupI p), .dat (.int k), .dat (tupI (more k p))], hs) := by
  have e1 : (k : Int) + 1 = ((k + 1 : Nat) : Int) := by omega
  have hcl := conts_len hct
  have hsl := h.sz.sz.len
  have s1 : eSlT (eVar 5) none (some (eVar 8)) [.dat (tupI S), .dat (fD F), .dat (keysW S F w), y3, y4, .dat (tupI ct), .dat (.int v), .dat (tupI p), .dat (.int k), .dat (tupI (more k p))] hs = some (tupI (ct.take k), hs) := by
    unfold eSlT
    simp only [x_var, List.getElem?_cons_zero, Option.bind_some, tupI, List.getElem?_cons_succ, cut_lo]
    rw [List.map_take]
  have s2 : eSlT (eVar 5) (some (eBin dAdd (eVar 8) (eC (.int 1)))) none [.dat (tupI S), .dat (fD F), .dat (keysW S F w), y3, y4, .dat (tupI ct), .dat (.int v), .dat (tupI p), .dat (.int k), .dat (tupI (more k p))] hs = some (tupI (ct.drop (k + 1)), hs) := by
    unfold eSlT
    simp only [x_bin, x_c, x_var, List.getElem?_cons_zero, Option.bind_some, tupI, List.getElem?_cons_succ, dAdd_int, Option.map_some, e1, cut_hi]
    rw [List.map_drop]
  have a1 : dAdd (tupI (ct.take k)) (tupI [v]) = some (tupI (ct.take k ++ [v])) := dAdd_tupI _ _ (by simp; omega)
  have a2 : dAdd (tupI (ct.take k ++ [v])) (tupI (ct.drop (k + 1))) = some (tupI (stC k v ct)) := by
    rw [dAdd_tupI _ _ (by simp; omega)]
    unfold stC
    simp
  have t1 : D.tup [.int v] = tupI [v] := rfl
  have i1 := ix_wD (z := true) (w := w) (show (ct, p) ∈ prodK S F from mem_prodK.mpr ⟨hct, hp⟩)
  have i2 := ix_wD (z := true) (w := w) (show (stC k v ct, more k p) ∈ prodK S F from mem_prodK.mpr ⟨hst, hm⟩)
  have i3 := ix_wD (z := true) (w := w) (show (stC k v ct, p) ∈ prodK S F from mem_prodK.mpr ⟨hst, hp⟩)
  have i4 := ix_wD (z := true) (w := w) (show (ct, more k p) ∈ prodK S F from mem_prodK.mpr ⟨hct, hm⟩)
  have kd : ∀ a b : List Int, D.tup [tupI a, tupI b] = keyD (a, b) := fun _ _ => rfl
  have b1 := h.wb _ (mem_prodK.mpr (show (ct, p).1 ∈ conts S ∧ (ct, p).2 ∈ F from ⟨hct, hp⟩))
  have b2 := h.wb _ (mem_prodK.mpr (show (stC k v ct, more k p).1 ∈ conts S ∧ (stC k v ct, more k p).2 ∈ F from ⟨hst, hm⟩))
  have b3 := h.wb _ (mem_prodK.mpr (show (stC k v ct, p).1 ∈ conts S ∧ (stC k v ct, p).2 ∈ F from ⟨hst, hp⟩))
  have b4 := h.wb _ (mem_prodK.mpr (show (ct, more k p).1 ∈ conts S ∧ (ct, more k p).2 ∈ F from ⟨hct, hm⟩))
  have m1 := dMul_int (mul_ok 500 500 (Int.le_of_lt b1.1) (Int.le_of_lt b2.1) b1.2 b2.2 (by omega))
  have m2 := dMul_int (mul_ok 500 500 (Int.le_of_lt b3.1) (Int.le_of_lt b4.1) b3.2 b4.2 (by omega))
  have n1 := dNeU_int (w (ct, p) * w (stC k v ct, more k p)) (w (stC k v ct, p) * w (ct, more k p))
  unfold luA
  rw [seq_nx (Γ' := [.dat (tupI S), .dat (fD F), .dat (keysW S F w), y3, .dat (tupI (stC k v ct)), .dat (tupI ct), .dat (.int v), .dat (tupI p), .dat (.int k), .dat (tupI (more k p))]) (hs' := hs) (by simp [s1, s2, t1, a1, a2])]
  rw [seq_nx (Γ' := [.dat (tupI S), .dat (fD F), .dat (keysW S F w), .dat (.int (w (ct, p) * w (stC k v ct, more k p))), .dat (tupI (stC k v ct)), .dat (tupI ct), .dat (.int v), .dat (tupI p), .dat (.int k), .dat (tupI (more k p))]) (hs' := hs) (by simp [kd, i1, i2, m1])]
  unfold lBadAt
  by_cases he : w (ct, p) * w (stC k v ct, more k p) = w (stC k v ct, p) * w (ct, more k p)
  · rw [he] at n1
    simp [kd, i3, i4, m2, he, n1]
  · simp [kd, i3, i4, m2, he, n1]
abbrev luI (S : List Int) (F : List (List Int)) (w : KY → Int) (k : Nat) (Γ : Env) : Prop := ∃ y3 y4 y5 y6 y7 y9, Γ = [.dat (tupI S), .dat (fD F), .dat (keysW S F w), y3, y4, y5, y6, y7, .dat (.int k), y9]
abbrev luR (k : Nat) (d : D) : Prop := ∃ r, d = .tup (.int k :: r)
theorem ev_luB {c : Cf} {hs : HS} {S : List Int} {F : List (List Int)} {w : KY → Int} (h : LwOk S F w) {k : Nat} (hk : k < S.length) {p ct : List Int} (hp : p ∈ F) (hm : more k p ∈ F) (hct : ct ∈ conts S) {y3 y4 y6 : Sl} :
    (lBadC S w k p ct = true → ∃ d, luB c [.dat (tupI S), .dat (fD F), .dat (keysW S F w), y3, y4, .dat (tupI ct), y6, .dat (tupI p), .dat (.int k), .dat (tupI (more k p))] hs = some (.ret d, hs) ∧ luR k d) ∧ (lBadC S w k p ct = false → ∃ Γ', luB c [.dat (tupI S), .dat (fD F), .dat (keysW S F w), y3, y4, .dat (tupI ct), y6, .dat (tupI p), .dat (.int k), .dat (tupI (more k p))] hs = some (.nx Γ', hs) ∧ ∃ y3 y4 y6, Γ' = [.dat (tupI S), .dat (fD F), .dat (keysW S F w), y3, y4, .dat (tupI ct), y6, .dat (tupI p), .dat (.int k), .dat (tupI (more k p))]) := by
  have hin := mem_conts.mp hct
  have hg := inS_get hin hk
  have hcl := conts_len hct
  have hs4 := h.sz.sz.pos (S.getD k 0) (by rw [getD_at hk]; exact List.getElem_mem hk)
  have i1 : dIx (tupI ct) (.int k) = some (.int (ct.getD k 0)) := by
    have : (ct.map D.int)[((k : Int)).toNat]? = some (.int (ct.getD k 0)) := by
      rw [getD_at (by omega)]
      simp [show k < ct.length by omega]
    exact ix_int (by omega) this
  have i2 : dIx (tupI S) (.int k) = some (.int (S.getD k 0)) := by
    have : (S.map D.int)[((k : Int)).toNat]? = some (.int (S.getD k 0)) := by
      rw [getD_at (by omega)]
      simp [hk]
    exact ix_int (by omega) this
  unfold luB lBadC
  rw [for_eq (items := (List.range (S.getD k 0 - (ct.getD k 0 + 1)).toNat).map fun (i : Nat) => D.int (ct.getD k 0 + 1 + (i : Int))) (hs1 := hs) (by
    unfold lRng2
    simp only [x_bin, x_var, x_c, List.getElem?_cons_zero, List.getElem?_cons_succ, Option.bind_some, Option.map_some, i1, i2, dAdd_int]
    rw [if_pos (by omega)]
    rfl)]
  have main := for_ret (hs := hs) (step := stepD (gd1 6) (luA c)) (fun (i : Nat) => D.int (ct.getD k 0 + 1 + (i : Int))) (fun Γ => ∃ y3 y4 y6, Γ = [.dat (tupI S), .dat (fD F), .dat (keysW S F w), y3, y4, .dat (tupI ct), y6, .dat (tupI p), .dat (.int k), .dat (tupI (more k p))]) (luR k) (fun (i : Nat) => lBadAt w k p ct (ct.getD k 0 + 1 + (i : Int))) (List.range (S.getD k 0 - (ct.getD k 0 + 1)).toNat) [.dat (tupI S), .dat (fD F), .dat (keysW S F w), y3, y4, .dat (tupI ct), y6, .dat (tupI p), .dat (.int k), .dat (tupI (more k p))] ⟨_, _, _, rfl⟩ (fun i hi Γ hΓ => by
    obtain ⟨z3, z4, z6, rfl⟩ := hΓ
    have hi' := List.mem_range.mp hi
    have hin2 := inS_st hin hk (v := ct.getD k 0 + 1 + (i : Int)) (by omega) (by omega)
    have e := ev_luA (c := c) (hs := hs) h hk (v := ct.getD k 0 + 1 + (i : Int)) hp hm hct (mem_conts.mpr hin2) (y3 := z3) (y4 := z4)
    have es : stepD (gd1 6) (luA c) (.int (ct.getD k 0 + 1 + (i : Int))) [.dat (tupI S), .dat (fD F), .dat (keysW S F w), z3, z4, .dat (tupI ct), z6, .dat (tupI p), .dat (.int k), .dat (tupI (more k p))] hs = luA c [.dat (tupI S), .dat (fD F), .dat (keysW S F w), z3, z4, .dat (tupI ct), .dat (.int (ct.getD k 0 + 1 + (i : Int))), .dat (tupI p), .dat (.int k), .dat (tupI (more k p))] hs := rfl
    rw [es, e]
    refine ⟨fun hb => ?_, fun hb => ?_⟩
    · rw [if_pos hb]; exact ⟨_, rfl, _, rfl⟩
    · rw [hb, if_neg Bool.false_ne_true]; exact ⟨_, rfl, _, _, _, rfl⟩)
  exact main
theorem ev_luD {c : Cf} {hs : HS} {S : List Int} {F : List (List Int)} {w : KY → Int} (h : LwOk S F w) {k : Nat} (hk : k < S.length) {p : List Int} (hp : p ∈ F) {y3 y4 y5 y6 y9 : Sl} :
    (lBadP S w F k p = true → ∃ d, luD c [.dat (tupI S), .dat (fD F), .dat (keysW S F w), y3, y4, y5, y6, .dat (tupI p), .dat (.int k), y9] hs = some (.ret d, hs) ∧ luR k d) ∧ (lBadP S w F k p = false → ∃ Γ', luD c [.dat (tupI S), .dat (fD F), .dat (keysW S F w), y3, y4, y5, y6, .dat (tupI p), .dat (.int k), y9] hs = some (.nx Γ', hs) ∧ luI S F w k Γ') := by
  have hpl := h.pl p hp
  have t1 : D.tup [.int k] = tupI [(k : Int)] := rfl
  have a1 : dAdd (tupI p) (tupI [(k : Int)]) = some (tupI (p ++ [(k : Int)])) := dAdd_tupI _ _ (by simp; omega)
  have a2 : dSorted [tupI (p ++ [(k : Int)])] = some (.lst ((more k p).map D.int)) := ev_sorted_tup (by simp; omega)
  have a3 : dTuple [.lst ((more k p).map D.int)] = some (tupI (more k p)) := rfl
  unfold luD
  rw [seq_nx (Γ' := [.dat (tupI S), .dat (fD F), .dat (keysW S F w), y3, y4, y5, y6, .dat (tupI p), .dat (.int k), .dat (tupI (more k p))]) (hs' := hs) (by simp [t1, a1, a2, a3])]
  have a5 := in_list (more k p) F
  have ec := ev_contents (c := c) (hs := hs) h.sz.sz
  unfold luC lBadP
  rw [for_eq (items := (if more k p ∈ F then conts S else []).map tupI) (hs1 := hs) (by
    unfold lItemsL
    by_cases hm : more k p ∈ F
    · simp [a5, hm, ec]
    · simp [a5, hm])]
  have main := for_ret (hs := hs) (step := stepD (gd1 5) (luB c)) tupI (fun Γ => ∃ y3 y4 y5 y6, Γ = [.dat (tupI S), .dat (fD F), .dat (keysW S F w), y3, y4, y5, y6, .dat (tupI p), .dat (.int k), .dat (tupI (more k p))]) (luR k) (lBadC S w k p) (if more k p ∈ F then conts S else []) [.dat (tupI S), .dat (fD F), .dat (keysW S F w), y3, y4, y5, y6, .dat (tupI p), .dat (.int k), .dat (tupI (more k p))] ⟨_, _, _, _, rfl⟩ (fun ct hct Γ hΓ => by
    obtain ⟨z3, z4, z5, z6, rfl⟩ := hΓ
    by_cases hm : more k p ∈ F
    · rw [if_pos hm] at hct
      have b := ev_luB (c := c) (hs := hs) h hk hp hm hct (y3 := z3) (y4 := z4) (y6 := z6)
      refine ⟨b.1, fun hb => ?_⟩
      obtain ⟨Γ', e, x3, x4, x6, rfl⟩ := b.2 hb
      exact ⟨_, e, _, _, _, _, rfl⟩
    · rw [if_neg hm] at hct; cases hct)
  refine ⟨main.1, fun hb => ?_⟩
  obtain ⟨Γ', e, x3, x4, x5, x6, rfl⟩ := main.2 hb
  exact ⟨_, e, _, _, _, _, _, _, rfl⟩
theorem sort_up {F : List (List Int)} (h : F.Pairwise (· < ·)) : F.mergeSort (fun a b => decide (a ≤ b)) = F := by
  refine List.mergeSort_of_pairwise (h.imp fun {a b} z => ?_)
  exact decide_eq_true (List.le_of_lt z)
theorem ev_luE {c : Cf} {hs : HS} {S : List Int} {F : List (List Int)} {w : KY → Int} (h : LwOk S F w) {k : Nat} (hk : k < S.length) (Γ : Env) (hΓ : luI S F w k Γ) :
    (lBadCol S w F k = true → ∃ d, luE c Γ hs = some (.ret d, hs) ∧ luR k d) ∧ (lBadCol S w F k = false → ∃ Γ', luE c Γ hs = some (.nx Γ', hs) ∧ luI S F w k Γ') := by
  obtain ⟨y3, y4, y5, y6, y7, y9, rfl⟩ := hΓ
  have hfl := h.few
  have so : dSorted [fD F] = some (fD F) := by
    unfold dSorted
    simp only [seqItems, Option.bind_some]
    rw [if_pos (sortOk_tupI (by omega)), sortD_tupI, sort_up h.up]
  have cm := comp_pure (gd := gd1 7) (cond := bOf (eBin dNotIn (eVar 8) (eVar 7))) (elt := eVar 7) (Γ := [.dat (tupI S), .dat (fD F), .dat (keysW S F w), y3, y4, y5, y6, .dead, .dat (.int k), y9]) (hs := hs) tupI tupI (fun p => !decide ((k : Int) ∈ p)) id F (fun p hp => by
    have a4 := notin_tup k p
    refine ⟨[.dat (tupI S), .dat (fD F), .dat (keysW S F w), y3, y4, y5, y6, .dat (tupI p), .dat (.int k), y9], rfl, ?_, fun _ => by simp⟩
    by_cases hkp : (k : Int) ∈ p <;> simp [hkp] at a4 <;> simp [a4, hkp])
  rw [List.map_id] at cm
  have cq := comp_eq (src := lItemsL (eFn dSorted (lCons (eVar 1) lNil))) (js := [7]) (hs := hs) (hs1 := hs) rfl (by simp [lItemsL, so]) (by rw [List.length_map]; omega) cm
  have e0 : luE c [.dat (tupI S), .dat (fD F), .dat (keysW S F w), y3, y4, y5, y6, y7, .dat (.int k), y9] hs = forD (stepD (gd1 7) (luD c)) ((F.filter fun p => !decide ((k : Int) ∈ p)).map tupI) [.dat (tupI S), .dat (fD F), .dat (keysW S F w), y3, y4, y5, y6, .dead, .dat (.int k), y9] hs := by
    show sFor _ _ _ [.dat (tupI S), .dat (fD F), .dat (keysW S F w), y3, y4, y5, y6, .dead, .dat (.int k), y9] hs = _
    rw [for_eq (items := (F.filter fun p => !decide ((k : Int) ∈ p)).map tupI) (hs1 := hs) (items_eq cq)]
  rw [e0]
  unfold lBadCol
  exact for_ret (hs := hs) tupI (luI S F w k) (luR k) (lBadP S w F k) (F.filter fun p => !decide ((k : Int) ∈ p)) _ ⟨_, _, _, _, _, _, rfl⟩ (fun p hp Γ hΓ => by
    obtain ⟨z3, z4, z5, z6, z7, z9, rfl⟩ := hΓ
    exact ev_luD (c := c) (hs := hs) h hk (List.mem_filter.mp hp).1 (y3 := z3) (y4 := z4) (y5 := z5) (y6 := z6) (y9 := z9))
theorem ev_law_uncalm {c : Cf} {hs : HS} {S : List Int} {F : List (List Int)} {w : KY → Int} (h : LwOk S F w) :
    (∀ k, uncalm S w (prodK S F) = some k → ∃ r, G_law_uncalm c [tupI S, fD F, keysW S F w] hs = some (.tup (.int k :: r), hs)) ∧ (uncalm S w (prodK S F) = none → G_law_uncalm c [tupI S, fD F, keysW S F w] hs = some (.non, hs)) := by
  rw [uncalm_eq h.sz.sz fun q hq => (h.wb q hq).1]
  have loop := for_find (hs := hs) (step := stepD (gd1 8) (luE c)) (fun (i : Nat) => D.int (i : Int)) (fun Γ => ∃ y3 y4 y5 y6 y7 y8 y9, Γ = [.dat (tupI S), .dat (fD F), .dat (keysW S F w), y3, y4, y5, y6, y7, y8, y9]) (fun k d => luR k d) (lBadCol S w F) (List.range S.length) [.dat (tupI S), .dat (fD F), .dat (keysW S F w), .dead, .dead, .dead, .dead, .dead, .dead, .dead] ⟨_, _, _, _, _, _, _, rfl⟩ (fun k hk Γ hΓ => by
    obtain ⟨y3, y4, y5, y6, y7, y8, y9, rfl⟩ := hΓ
    have b := ev_luE (c := c) (hs := hs) h (List.mem_range.mp hk) [.dat (tupI S), .dat (fD F), .dat (keysW S F w), y3, y4, y5, y6, y7, .dat (.int k), y9] ⟨_, _, _, _, _, _, rfl⟩
    refine ⟨b.1, fun hb => ?_⟩
    obtain ⟨Γ', e, z3, z4, z5, z6, z7, z9, rfl⟩ := b.2 hb
    exact ⟨_, e, _, _, _, _, _, _, _, rfl⟩)
  have src : sFor (lRng1 (eFn dLen (lCons (eVar 0) lNil))) (gd1 8) (luE c) [.dat (tupI S), .dat (fD F), .dat (keysW S F w), .dead, .dead, .dead, .dead, .dead, .dead, .dead] hs = forD (stepD (gd1 8) (luE c)) ((List.range S.length).map (fun (i : Nat) => D.int (i : Int))) [.dat (tupI S), .dat (fD F), .dat (keysW S F w), .dead, .dead, .dead, .dead, .dead, .dead, .dead] hs := by
    have hl := h.sz.sz.len
    rw [for_eq (rng1_eq (n := (S.length : Int)) (hs1 := hs) (by simp [tupI, dLen]) (by omega) (by omega))]
    simp
  refine ⟨fun k hk => ?_, fun hk => ?_⟩
  · obtain ⟨d, e, r, rfl⟩ := loop.1 k hk
    refine ⟨r, fn_ret rfl ?_⟩
    show dn_law_uncalm c [.dat (tupI S), .dat (fD F), .dat (keysW S F w), .dead, .dead, .dead, .dead, .dead, .dead, .dead] hs = _
    rw [law_uncalm_eq]
    exact seq_ret (by rw [src]; exact e)
  · obtain ⟨Γ', e, _⟩ := loop.2 hk
    refine fn_ret rfl ?_
    show dn_law_uncalm c [.dat (tupI S), .dat (fD F), .dat (keysW S F w), .dead, .dead, .dead, .dead, .dead, .dead, .dead] hs = _
    rw [law_uncalm_eq, seq_nx (Γ' := Γ') (hs' := hs) (by rw [src]; exact e)]
    simp
end Dl
/-! the law's whole is a whole. -/
namespace Dl
open PySem PySem.Spec PyProof.Rows L2
def tot (S : List Int) (F : List (List Int)) (w : KY → Int) : Int := ((prodK S F).map w).sum
section
variable {S : List Int} {F : List (List Int)} {w : KY → Int}
theorem LwOk.card (h : LwOk S F w) : (prodK S F).length ≤ 4096 := by
  rw [prodK_len]
  have a := h.sz.sz.card
  have b := h.few
  calc (conts S).length * F.length ≤ 256 * 16 := Nat.mul_le_mul a b
    _ = 4096 := rfl
theorem sum_le {B : Int} (hB : 0 ≤ B) : ∀ {l : List Int}, (∀ a ∈ l, a ≤ B) → l.sum ≤ B * l.length
  | [], _ => by simp
  | x :: l, h => by
    have := sum_le hB (l := l) (fun a ha => h a (List.mem_cons_of_mem _ ha))
    have := h x List.mem_cons_self
    simp only [List.sum_cons, List.length_cons]
    have e : B * ((l.length + 1 : Nat) : Int) = B * l.length + B := by
      rw [Int.natCast_add, Int.mul_add]; simp
    omega
theorem LwOk.prod_ne (h : LwOk S F w) : prodK S F ≠ [] := by
  intro e
  cases hc : conts S with
  | nil => exact conts_pos h.sz.sz hc
  | cons a l =>
    cases hf : F with
    | nil => exact h.ne hf
    | cons p r =>
      have : (a, p) ∈ prodK S F := mem_prodK.mpr ⟨by rw [hc]; simp, by rw [hf]; simp⟩
      rw [e] at this; cases this
theorem sum_pos : ∀ {l : List Int}, l ≠ [] → (∀ a ∈ l, 0 < a) → 0 < l.sum
  | [], h, _ => absurd rfl h
  | x :: l, _, h => by
    have := sum_nonneg (l := l) (fun a ha => Int.le_of_lt (h a (List.mem_cons_of_mem _ ha)))
    have := h x List.mem_cons_self
    simp only [List.sum_cons]; omega
theorem LwOk.T0 (h : LwOk S F w) : 0 < tot S F w := sum_pos (fun e => h.prod_ne (List.map_eq_nil_iff.mp e)) fun a ha => by
  obtain ⟨k, hk, rfl⟩ := List.mem_map.mp ha
  exact (h.wb k hk).1
theorem LwOk.T1 (h : LwOk S F w) : tot S F w < (2 : Int) ^ 2000 := by
  have a : tot S F w ≤ (2 : Int) ^ 500 * ((prodK S F).map w).length := sum_le (Int.le_of_lt (Int.pow_pos (by omega))) fun a ha => by
    obtain ⟨k, hk, rfl⟩ := List.mem_map.mp ha
    exact Int.le_of_lt (h.wb k hk).2
  rw [List.length_map] at a
  have b := h.card
  have d : (2 : Int) ^ 500 * ((prodK S F).length : Int) ≤ (2 : Int) ^ 500 * 4096 := Int.mul_le_mul_of_nonneg_left (by omega) (Int.le_of_lt (Int.pow_pos (by omega)))
  have e : (2 : Int) ^ 500 * 4096 < (2 : Int) ^ 2000 := by decide +kernel
  omega
theorem LwOk.wh (h : LwOk S F w) : WhOk S w (tot S F w) (prodK S F) where
  sz := h.sz.sz
  nd := prodK_nodup h.up
  dd := by
    have : (dedup ((prodK S F).map (·.2))).length ≤ F.length := List.Nodup.length_le_of_subset (nodup_dedup _) fun p hp => by
      obtain ⟨k, hk, rfl⟩ := List.mem_map.mp ((dedup_mem _ _).mp hp)
      exact (mem_prodK.mp hk).2
    have := h.few
    omega
  few := by have := h.card; omega
  cnd := conts_nodup S
  T0 := h.T0
  T1 := h.T1
  wb := fun k hk => ⟨(h.wb k hk).1, Int.lt_trans (h.wb k hk).2 (by decide +kernel)⟩
  full := fun ct hct p hp => mem_prodK.mpr ⟨hct, (fam_prod h.sz.sz).mp hp⟩
  pl := fun p hp => by have := h.pl p ((fam_prod h.sz.sz).mp hp); omega
theorem LwOk.rows (h : LwOk S F w) : RowsOk S w (tot S F w) (prodK S F) where
  sz := h.sz
  key := fun k hk => ⟨mem_conts.mp (mem_prodK.mp hk).1, h.lot _ (mem_prodK.mp hk).2, (h.wb k hk).1⟩
  up := (up_of _ (prodK_klt h.up)).2
  sum := rfl
  T0 := h.T0
  T1 := h.T1
  few := by have := h.card; omega
theorem LwOk.init (h : LwOk S F w) {c : Cf} {hs : HS} : initG c (tupI S) (.ptup ((prodK S F).map (rowD w (tot S F w)))) hs := by
  refine ev_init h.rows (by have := h.card; omega) fun p hp => ?_
  obtain ⟨k, hk, rfl⟩ := hp
  have hk2 := (mem_prodK.mp hk).2
  unfold cnt
  have nd : ((conts S).map fun ct => (ct, k.2)).Nodup := by
    unfold List.Nodup
    rw [List.pairwise_map]
    exact (conts_nodup S).imp fun {a b} hne e => hne (congrArg Prod.fst e)
  have := nd.length_le_of_subset (l₂ := (prodK S F).filter fun q => decide (q.2 = k.2)) fun q hq => by
    obtain ⟨ct, hct, rfl⟩ := List.mem_map.mp hq
    refine List.mem_filter.mpr ⟨mem_prodK.mpr ⟨hct, hk2⟩, by simp⟩
  rw [List.length_map] at this
  omega
theorem ev_mk (h : LwOk S F w) {c : Cf} {hs : HS} {l : LDn} {Γ : Env} (e : l Γ hs = some ([tupI S, .ptup ((prodK S F).map (rowD w (tot S F w)))], hs)) : eMk c l Γ hs = some (whD S (prodK S F) w (tot S F w), hs) := by
  unfold eMk
  rw [e]
  simp only [Option.bind_some]
  rw [if_pos h.init]
  rfl
theorem ev_law_rows (h : LwOk S F w) {c : Cf} {hs : HS} : G_law_rows c [keysW S F w, .int (tot S F w)] hs = some (.ptup ((prodK S F).map (rowD w (tot S F w))), hs) := by
  refine fn_ret rfl ?_
  unfold dn_law_rows
  have hcd := h.card
  show sRet _ [.dat (keysW S F w), .dat (.int (tot S F w)), .dead] hs = _
  have so := sorted_wD (z := true) (w := w) (prodK_klt (S := S) h.up) (by omega)
  have cm : compD (gd1 2) bYes (eTup (lCons (eVar 2) (lCons (eCall (G_law_low c) (lCons (eBin dIxN (eVar 0) (eVar 2)) (lCons (eVar 1) lNil))) lNil))) [.dat (keysW S F w), .dat (.int (tot S F w)), .dead] ((prodK S F).map keyD) hs = some (((prodK S F).map id).map (rowD w (tot S F w)), hs) := by
    refine comp_map keyD (rowD w (tot S F w)) id (prodK S F) fun k hk => ⟨[.dat (keysW S F w), .dat (.int (tot S F w)), .dat (keyD k)], rfl, ?_⟩
    have i1 := ix_wD (z := true) (w := w) hk
    have lw := ev_law_low (c := c) (hs := hs) (w k) (tot S F w) (Int.le_of_lt (h.wb k hk).1) h.T0 (Int.lt_trans h.T1 (by decide +kernel))
    simp [i1, lw, rowD]
  rw [List.map_id] at cm
  have cq := comp_eq (src := lItemsL (eFn dSorted (lCons (eVar 0) lNil))) (js := [2]) (hs := hs) (hs1 := hs) rfl (by simp [lItemsL, so]) (by rw [List.length_map]; omega) cm
  simp only [x_ret, x_fn, x_cons, x_nil, cq, Option.bind_some, Option.map_some, dTupleP]
theorem ev_sum (h : LwOk S F w) {c : Cf} {hs : HS} {Γ : Env} {i j : Nat} (hi : Γ[i]? = some (.dat (keysW S F w))) (hj : Γ[j]? = some .dead) (hij : i ≠ j) : eFn dSum (lCons (eComp (lItemsK (eVar i)) [j] (gd1 j) bYes (eBin dIxN (eVar i) (eVar j))) lNil) Γ hs = some (.int (tot S F w), hs) := by
  have hcd := h.card
  have hjl := (List.getElem?_eq_some_iff.mp hj).1
  have cm : compD (gd1 j) bYes (eBin dIxN (eVar i) (eVar j)) Γ ((prodK S F).map keyD) hs = some (((prodK S F).map w).map D.int, hs) := by
    refine comp_map keyD D.int w (prodK S F) fun k hk => ⟨Γ.set j (.dat (keyD k)), rfl, ?_⟩
    have i1 := ix_wD (z := true) (w := w) hk
    have g1 : (Γ.set j (.dat (keyD k)))[i]? = some (.dat (keysW S F w)) := by rw [List.getElem?_set_ne (Ne.symm hij)]; exact hi
    have g2 : (Γ.set j (.dat (keyD k)))[j]? = some (.dat (keyD k)) := List.getElem?_set_self hjl
    simp only [x_bin, x_var, g1, g2, Option.bind_some, i1, Option.map_some]
  have hk : ((prodK S F).map fun k => (keyD k, D.int (w k))).map (·.1) = (prodK S F).map keyD := by simp
  have cq := comp_eq (src := lItemsK (eVar i)) (js := [j]) (Γ := Γ) (hs := hs) (hs1 := hs) (by simp [deadAll, hj]) (by
    unfold lItemsK
    simp only [x_var, hi, Option.bind_some, wD, hk]) (by rw [List.length_map]; omega) cm
  simp only [x_fn, x_cons, x_nil, cq, Option.bind_some, Option.map_some, dSum, intsD_ints]
  rfl
end
end Dl
/-! the patterns. -/
namespace Dl
open PySem PySem.Spec PyProof.Rows L2
def rawP : Nat → List (List Int)
  | 0 => [[]]
  | n + 1 => rawP n ++ (rawP n).map (· ++ [(n : Int)])
def pats (n : Nat) : List (List Int) := (rawP n).mergeSort (fun a b => decide (a ≤ b))
theorem rawP_len : ∀ n, (rawP n).length = 2 ^ n
  | 0 => rfl
  | n + 1 => by rw [rawP, List.length_append, List.length_map, rawP_len n, Nat.pow_succ]; omega
theorem rawP_card {n : Nat} (h : n ≤ 4) : (rawP n).length ≤ 16 := by
  rw [rawP_len]
  calc 2 ^ n ≤ 2 ^ 4 := Nat.pow_le_pow_right (by omega) h
    _ = 16 := rfl
theorem rawP_pl : ∀ (n : Nat), ∀ p ∈ rawP n, p.length ≤ n
  | 0, p, h => by simp [rawP] at h; simp [h]
  | n + 1, p, h => by
    rw [rawP, List.mem_append, List.mem_map] at h
    rcases h with h | ⟨q, h, rfl⟩
    · have := rawP_pl n p h; omega
    · have := rawP_pl n q h; simp; omega
theorem rawP_lot {n : Nat} (h : n ≤ 4) : ∀ p ∈ rawP n, lotOk n (-1) p = true := by
  rcases (show n = 0 ∨ n = 1 ∨ n = 2 ∨ n = 3 ∨ n = 4 by omega) with rfl | rfl | rfl | rfl | rfl <;> decide +kernel
theorem rawP_nd {n : Nat} (h : n ≤ 4) : (rawP n).Nodup := by
  rcases (show n = 0 ∨ n = 1 ∨ n = 2 ∨ n = 3 ∨ n = 4 by omega) with rfl | rfl | rfl | rfl | rfl <;> decide +kernel
theorem pats_mem {n : Nat} {p : List Int} : p ∈ pats n ↔ p ∈ rawP n := (List.mergeSort_perm _ _).mem_iff
theorem pats_up {n : Nat} (h : n ≤ 4) : (pats n).Pairwise (· < ·) := by
  have tr : ∀ a b d : List Int, decide (a ≤ b) = true → decide (b ≤ d) = true → decide (a ≤ d) = true := fun a b d h1 h2 => decide_eq_true (List.le_trans (of_decide_eq_true h1) (of_decide_eq_true h2))
  have to : ∀ a b : List Int, (decide (a ≤ b) || decide (b ≤ a)) = true := fun a b => by
    have t : a ≤ b ∨ b ≤ a := List.le_total a b
    rcases t with z | z <;> simp [z]
  have a : (pats n).Pairwise fun a b => decide (a ≤ b) = true := List.pairwise_mergeSort (le := fun a b : List Int => decide (a ≤ b)) tr to (rawP n)
  have b : (pats n).Nodup := (List.mergeSort_perm _ _).nodup_iff.mpr (rawP_nd h)
  refine (a.and b).imp fun {x y} ⟨h1, h2⟩ => ?_
  have h3 : x ≤ y := of_decide_eq_true h1
  rcases (List.le_iff_lt_or_eq (l₁ := x) (l₂ := y)).mp h3 with z | z
  · exact z
  · exact absurd z h2
theorem pats_len {n : Nat} (h : n ≤ 4) : (pats n).length ≤ 16 := by
  unfold pats
  rw [List.length_mergeSort]
  exact rawP_card h
theorem range_at {n : Nat} {pre post : List Nat} {x : Nat} (h : List.range n = pre ++ x :: post) : x = pre.length ∧ pre.length < n := by
  have h1 := congrArg (fun l => l[pre.length]?) h
  have h2 := congrArg List.length h
  simp at h1 h2
  obtain ⟨h3, h4⟩ := List.getElem?_eq_some_iff.mp h1
  simp at h4
  omega
theorem ev_patterns {c : Cf} {hs : HS} {n : Nat} (h : n ≤ 4) : G_law_patterns c [.int n] hs = some (.lst ((pats n).map tupI), hs) := by
  refine fn_ret rfl ?_
  unfold dn_law_patterns
  show sSeq _ _ [.dat (.int n), .dead, .dead, .dead] hs = _
  rw [seq_nx (Γ' := [.dat (.int n), .dat (.lst [.tup []]), .dead, .dead]) (hs' := hs) (by simp)]
  have loop := for_inv (step := stepD (gd1 2) (sAsg 1 (eBin dAdd (eVar 1) (eComp (lItemsL (eVar 1)) [3] (gd1 3) bYes (eBin dAdd (eVar 3) (eTup (lCons (eVar 2) lNil))))))) (fun (i : Nat) => D.int (i : Int)) (fun pre Γ h => h = hs ∧ ∃ j2, Γ = [.dat (.int n), .dat (.lst ((rawP pre.length).map tupI)), j2, .dead]) (List.range n) (Γ := [.dat (.int n), .dat (.lst [.tup []]), .dead, .dead]) (hs := hs) ⟨rfl, _, rfl⟩ (by
    rintro pre x post Γ hs1 hx ⟨rfl, j2, rfl⟩
    obtain ⟨rfl, hlt⟩ := range_at hx
    have hc := rawP_card (n := pre.length) (by omega)
    have cm := comp_map (gd := gd1 3) (elt := eBin dAdd (eVar 3) (eTup (lCons (eVar 2) lNil))) (Γ := [.dat (.int n), .dat (.lst ((rawP pre.length).map tupI)), .dat (.int pre.length), .dead]) (hs := hs1) tupI tupI (· ++ [(pre.length : Int)]) (rawP pre.length) (fun p hp => by
      have hl := rawP_pl _ p hp
      have t1 : D.tup [.int pre.length] = tupI [(pre.length : Int)] := rfl
      have a1 : dAdd (tupI p) (tupI [(pre.length : Int)]) = some (tupI (p ++ [(pre.length : Int)])) := dAdd_tupI _ _ (by simp; omega)
      exact ⟨[.dat (.int n), .dat (.lst ((rawP pre.length).map tupI)), .dat (.int pre.length), .dat (tupI p)], rfl, by simp [t1, a1]⟩)
    have cq := comp_eq (src := lItemsL (eVar 1)) (js := [3]) (hs := hs1) (hs1 := hs1) rfl (by simp [lItemsL]) (by rw [List.length_map]; omega) cm
    have ad : dAdd (.lst ((rawP pre.length).map tupI)) (.lst (((rawP pre.length).map (· ++ [(pre.length : Int)])).map tupI)) = some (.lst ((rawP (pre.length + 1)).map tupI)) := by
      unfold dAdd
      simp only [List.length_map]
      rw [if_pos (by omega), rawP, List.map_append]
    refine ⟨[.dat (.int n), .dat (.lst ((rawP (pre.length + 1)).map tupI)), .dat (.int pre.length), .dead], hs1, ?_, rfl, .dat (.int pre.length), by simp⟩
    have e0 : ∀ body : SDn, stepD (gd1 2) body (.int pre.length) [.dat (.int n), .dat (.lst ((rawP pre.length).map tupI)), j2, .dead] hs1 = body [.dat (.int n), .dat (.lst ((rawP pre.length).map tupI)), .dat (.int pre.length), .dead] hs1 := fun _ => rfl
    rw [e0]
    simp only [x_asg, x_bin, x_var, List.getElem?_cons_succ, List.getElem?_cons_zero, Option.bind_some, cq, ad, Option.map_some]
    rfl)
  obtain ⟨Γ', hs', e, rfl, j2, rfl⟩ := loop
  rw [seq_nx (Γ' := [.dat (.int n), .dat (.lst ((rawP n).map tupI)), j2, .dead]) (hs' := hs') (by
    rw [for_eq (rng1_eq (n := (n : Int)) (hs1 := hs') (by simp) (by omega) (by omega))]
    simpa using e)]
  have so : dSorted [.lst ((rawP n).map tupI)] = some (.lst ((pats n).map tupI)) := by
    unfold dSorted
    simp only [seqItems, Option.bind_some]
    rw [if_pos (sortOk_tupI (by have := rawP_card h; omega)), sortD_tupI]
    rfl
  simp [so]
end Dl
/-! drawn sizes, drawn families. -/
namespace Dl
open PySem PySem.Spec PyProof.Rows L2
theorem comp_sub {α : Type} {gd : GDn} {cond : BDn} {elt : EDn} {Γ : Env} (enc : α → D) {ad : Addr} : ∀ (xs : List α) (k : Nat) (hs : HS), HI k hs → hs.ad = ad → (∀ x ∈ xs, ∀ (j : Nat) (hs : HS), HI j hs → j < k + xs.length → hs.ad = ad → ∃ (Γ' : Env) (b : Bool) (hs' : HS), gd (enc x) Γ = some Γ' ∧ cond Γ' hs = some (b, hs') ∧ HI (j + 1) hs' ∧ hs'.ad = ad ∧ elt Γ' hs' = some (enc x, hs')) →
    ∃ (ys : List α) (hs' : HS), compD gd cond elt Γ (xs.map enc) hs = some (ys.map enc, hs') ∧ ys.Sublist xs ∧ HI (k + xs.length) hs' ∧ hs'.ad = ad
  | [], k, hs, h, e, _ => ⟨[], hs, rfl, List.Sublist.refl _, h, e⟩
  | x :: xs, k, hs, h, e, st => by
    obtain ⟨Γ', b, hs1, e1, e2, h1, ad1, e3⟩ := st x List.mem_cons_self k hs h (by simp) e
    obtain ⟨ys, hs2, e4, sb, h2, ad2⟩ := comp_sub enc xs (k + 1) hs1 h1 ad1 (fun y hy j hs hj hl => st y (List.mem_cons_of_mem _ hy) j hs hj (by simp only [List.length_cons]; omega))
    have hn : k + 1 + xs.length = k + (x :: xs).length := by simp only [List.length_cons]; omega
    rw [hn] at h2
    rw [List.map_cons, compD]
    cases b with
    | false => exact ⟨ys, hs2, by simp [e1, e2, e4], sb.cons _, h2, ad2⟩
    | true => exact ⟨x :: ys, hs2, by simp [e1, e2, e3, e4], sb.cons_cons _, h2, ad2⟩
theorem any_ints' {c : Cf} {k : Nat} {hs : HS} {zs : List Int} (h : HI k hs) (hk : k ≤ 1000000) (h0 : zs ≠ []) (h1 : zs.length ≤ 1000) : ∃ z hs', G_law_any c [.hand hs.ad, .lst (zs.map D.int)] hs = some (.int z, hs') ∧ z ∈ zs ∧ HI (k + 1) hs' ∧ hs'.ad = hs.ad := by
  obtain ⟨x, hs', e, hx, h2, ad⟩ := ev_any (c := c) (xs := zs.map D.int) h (by omega) (by simpa using h0) (by simpa using h1)
  obtain ⟨z, hz, rfl⟩ := List.mem_map.mp hx
  exact ⟨z, hs', e, hz, h2, ad⟩
theorem any_tups {c : Cf} {k : Nat} {hs : HS} {zs : List (List Int)} (h : HI k hs) (hk : k ≤ 1000000) (h0 : zs ≠ []) (h1 : zs.length ≤ 1000) : ∃ z hs', G_law_any c [.hand hs.ad, .lst (zs.map tupI)] hs = some (tupI z, hs') ∧ z ∈ zs ∧ HI (k + 1) hs' ∧ hs'.ad = hs.ad := by
  obtain ⟨x, hs', e, hx, h2, ad⟩ := ev_any (c := c) (xs := zs.map tupI) h (by omega) (by simpa using h0) (by simpa using h1)
  obtain ⟨z, hz, rfl⟩ := List.mem_map.mp hx
  exact ⟨z, hs', e, hz, h2, ad⟩
def szList : List (List Int) := [[2], [3], [4], [2, 2], [2, 2], [2, 2], [2, 3], [3, 2], [2, 3], [3, 3], [2, 4], [2, 2, 2]]
def gzList : List (List Int) := [[4, 4, 4], [4, 4, 2, 2], [3, 4, 4], [2, 4, 2, 4], [4, 4, 3], [2, 2, 2, 2], [2, 2, 2, 2]]
theorem sz_ok : ∀ S ∈ szList, SzW S ∧ S.length ≤ 3 ∧ 1 ≤ S.length := by
  have : ∀ S ∈ szList, (S.length ≤ 4 ∧ (∀ s ∈ S, 2 ≤ s ∧ s ≤ 4)) ∧ S ≠ [] ∧ prodI S ≤ 64 ∧ S.length ≤ 3 ∧ 1 ≤ S.length := by decide +kernel
  exact fun S hS => let ⟨⟨a, b⟩, d, e, f, g⟩ := this S hS; ⟨⟨⟨a, b⟩, d, e⟩, f, g⟩
theorem gz_ok : ∀ S ∈ gzList, SzW S ∧ 3 ≤ S.length := by
  have : ∀ S ∈ gzList, (S.length ≤ 4 ∧ (∀ s ∈ S, 2 ≤ s ∧ s ≤ 4)) ∧ S ≠ [] ∧ prodI S ≤ 64 ∧ 3 ≤ S.length := by decide +kernel
  exact fun S hS => let ⟨⟨a, b⟩, d, e, f⟩ := this S hS; ⟨⟨⟨a, b⟩, d, e⟩, f⟩
theorem ev_law_sizes {c : Cf} {k : Nat} {hs : HS} (h : HI k hs) (hk : k ≤ 1000000) : ∃ S hs', G_law_sizes c [.hand hs.ad] hs = some (tupI S, hs') ∧ S ∈ szList ∧ HI (k + 1) hs' ∧ hs'.ad = hs.ad := by
  obtain ⟨z, hs', e, hz, h2, ad⟩ := any_tups (c := c) (zs := szList) h hk (by decide) (by decide)
  refine ⟨z, hs', fn_ret rfl ?_, hz, h2, ad⟩
  unfold dn_law_sizes
  show sSeq _ _ [.dat (.hand hs.ad), .dead] hs = _
  rw [seq_nx (Γ' := [.dat (.hand hs.ad), .dat (.lst (szList.map tupI))]) (hs' := hs) (by simp [szList, tupI])]
  simp [e]
theorem ev_great_sizes {c : Cf} {k : Nat} {hs : HS} (h : HI k hs) (hk : k ≤ 1000000) : ∃ S hs', G_law_great_sizes c [.hand hs.ad] hs = some (tupI S, hs') ∧ S ∈ gzList ∧ HI (k + 1) hs' ∧ hs'.ad = hs.ad := by
  obtain ⟨z, hs', e, hz, h2, ad⟩ := any_tups (c := c) (zs := gzList) h hk (by decide) (by decide)
  refine ⟨z, hs', fn_ret rfl ?_, hz, h2, ad⟩
  unfold dn_law_great_sizes
  show sRet (eCall (G_law_any c) (lCons (eVar 0) (lCons _ lNil))) [.dat (.hand hs.ad)] hs = _
  have e2 : G_law_any c [.hand hs.ad, .lst [.tup [.int 4, .int 4, .int 4], .tup [.int 4, .int 4, .int 2, .int 2], .tup [.int 3, .int 4, .int 4], .tup [.int 2, .int 4, .int 2, .int 4], .tup [.int 4, .int 4, .int 3], .tup [.int 2, .int 2, .int 2, .int 2], .tup [.int 2, .int 2, .int 2, .int 2]]] hs = some (tupI z, hs') := e
  simp [e2]
theorem ev_any_family {c : Cf} {k : Nat} {hs : HS} {n : Nat} (h : HI k hs) (hk : k ≤ 900000) (hn : n ≤ 4) : ∃ F hs', G_law_any_family c [.hand hs.ad, .int n] hs = some (fD F, hs') ∧ F.Sublist (pats n) ∧ F ≠ [] ∧ HI (k + 20) hs' ∧ hs'.ad = hs.ad := by
  have hpl := pats_len hn
  have ep := ev_patterns (c := c) (hs := hs) hn
  obtain ⟨m, hs1, e1, hm, h1, ad1⟩ := any_ints' (c := c) (zs := [1, 2, 2, 2]) h (by omega) (by decide) (by decide)
  have e1' : G_law_any c [.hand hs.ad, .lst [.int 1, .int 2, .int 2, .int 2]] hs = some (.int m, hs1) := e1
  obtain ⟨ys, hs2, e2, sb, h2, ad2⟩ := comp_sub (gd := gd1 5) (cond := bOf (eBin dLtU (eCall (G_law_draw c) (lCons (eVar 0) (lCons (eC (.int 3)) lNil))) (eVar 3))) (elt := eVar 5) (Γ := [.dat (.hand hs.ad), .dat (.int n), .dead, .dat (.int m), .dat (.lst ((pats n).map tupI)), .dead]) tupI (ad := hs.ad) (pats n) (k + 1) hs1 h1 ad1 (fun p hp j hsj hj hl ha => by
    obtain ⟨r, hs', e, r0, r1, h3, ad3⟩ := ev_draw (c := c) (many := 3) hj (by omega) (by omega) (by omega)
    rw [ha] at e ad3
    exact ⟨[.dat (.hand hs.ad), .dat (.int n), .dead, .dat (.int m), .dat (.lst ((pats n).map tupI)), .dat (tupI p)], decide (r < m), hs', rfl, by simp [e, dLtU_int], h3, ad3, by simp⟩)
  have cq := comp_eq (src := lItemsL (eVar 4)) (js := [5]) (Γ := [.dat (.hand hs.ad), .dat (.int n), .dead, .dat (.int m), .dat (.lst ((pats n).map tupI)), .dead]) (hs := hs1) (hs1 := hs1) rfl (by simp [lItemsL]) (by rw [List.length_map]; omega) e2
  have st : ∀ d hs3, (sRet (eIf (bOf (eBin dGt (eFn dLen (lCons (eVar 2) lNil)) (eC (.int 0)))) (eVar 2) (eLst (lCons (eCall (G_law_any c) (lCons (eVar 0) (lCons (eVar 4) lNil))) lNil)))) [.dat (.hand hs.ad), .dat (.int n), .dat (.lst (ys.map tupI)), .dat (.int m), .dat (.lst ((pats n).map tupI)), .dead] hs2 = some (.ret d, hs3) → G_law_any_family c [.hand hs.ad, .int n] hs = some (d, hs3) := fun d hs3 hh => by
    refine fn_ret rfl ?_
    unfold dn_law_any_family
    show sSeq _ _ [.dat (.hand hs.ad), .dat (.int n), .dead, .dead, .dead, .dead] hs = _
    rw [seq_nx (Γ' := [.dat (.hand hs.ad), .dat (.int n), .dead, .dat (.int m), .dat (.lst ((pats n).map tupI)), .dead]) (hs' := hs1) (by
      unfold sAsgG
      simp [ep, e1', gd2])]
    rw [seq_nx (asg cq)]
    exact hh
  cases ys with
  | nil =>
    have hne : pats n ≠ [] := by
      intro e
      have : ([] : List Int) ∈ pats n := pats_mem.mpr (by
        have : ∀ n, ([] : List Int) ∈ rawP n := fun n => by
          induction n with
          | zero => simp [rawP]
          | succ n ih => rw [rawP]; exact List.mem_append_left _ ih
        exact this n)
      rw [e] at this; cases this
    obtain ⟨z, hs3, e3, hz, h3, ad3⟩ := any_tups (c := c) (zs := pats n) h2 (by omega) hne (by omega)
    rw [ad2] at e3 ad3
    refine ⟨[z], hs3, st _ _ ?_, List.singleton_sublist.mpr hz, by simp, h3.mono (by omega), ad3⟩
    simp [dLen, dGt_int, e3]
  | cons y ys =>
    refine ⟨y :: ys, hs2, st _ _ ?_, sb, by simp, h2.mono (by omega), ad2⟩
    have hp : (0 : Int) < (ys.length : Int) + 1 := by omega
    simp [dLen, dGt_int, hp]
end Dl
/-! views, drawn tops. -/
namespace Dl
open PySem PySem.Spec PyProof.Rows L2
def viewL (ct p : List Int) : List Int := (List.range ct.length).map fun (i : Nat) => if (i : Int) ∈ p then ct.getD i 0 else -1
theorem ev_view {c : Cf} {hs : HS} {ct p : List Int} (hl : ct.length ≤ 100) : G_law_view c [tupI ct, tupI p] hs = some (tupI (viewL ct p), hs) := by
  refine fn_ret rfl ?_
  unfold dn_law_view
  show sRet _ [.dat (tupI ct), .dat (tupI p), .dead] hs = _
  have cm := comp_map (gd := gd1 2) (elt := eIf (bOf (eBin dIn (eVar 2) (eVar 1))) (eBin dIx (eVar 0) (eVar 2)) (eUn dNeg (eC (.int 1)))) (Γ := [.dat (tupI ct), .dat (tupI p), .dead]) (hs := hs) (fun (i : Nat) => D.int (i : Int)) D.int (fun (i : Nat) => if (i : Int) ∈ p then ct.getD i 0 else -1) (List.range ct.length) (fun i hi => by
    have hlt := List.mem_range.mp hi
    have i1 : dIx (tupI ct) (.int i) = some (.int (ct.getD i 0)) := by
      have : (ct.map D.int)[((i : Int)).toNat]? = some (.int (ct.getD i 0)) := by
        rw [getD_at hlt]
        simp [hlt]
      exact ix_int (by omega) this
    have i2 : dIn (.int i) (tupI p) = some (.bl (decide ((i : Int) ∈ p))) := by
      unfold dIn
      rw [in_tup]; rfl
    refine ⟨[.dat (tupI ct), .dat (tupI p), .dat (.int i)], rfl, ?_⟩
    by_cases hm : (i : Int) ∈ p <;> simp [hm] at i2 <;> simp [hm, i1, i2, dNeg])
  have cq := comp_eq (js := [2]) (hs := hs) (hs1 := hs) rfl (rng1_eq (f := eFn dLen (lCons (eVar 0) lNil)) (Γ := [.dat (tupI ct), .dat (tupI p), .dead]) (n := (ct.length : Int)) (hs1 := hs) (by simp [tupI, dLen]) (by omega) (by omega)) (by simp; omega) (by simpa using cm)
  simp only [x_ret, x_fn, x_cons, x_nil, cq, Option.bind_some, Option.map_some, dTuple]
  unfold viewL tupI
  simp
theorem ev_has_all {c : Cf} {hs : HS} {o p : List Int} (hl : p.length ≤ 100) : G_law_has_all c [tupI o, tupI p] hs = some (.bl (p.all fun z => decide (z ∈ o)), hs) := by
  refine fn_ret rfl ?_
  unfold dn_law_has_all
  show sRet _ [.dat (tupI o), .dat (tupI p), .dead] hs = _
  have cm := comp_map (gd := gd1 2) (elt := eBin dIn (eVar 2) (eVar 0)) (Γ := [.dat (tupI o), .dat (tupI p), .dead]) (hs := hs) D.int D.bl (fun z => decide (z ∈ o)) p (fun z hz => by
    have i2 : dIn (.int z) (tupI o) = some (.bl (decide (z ∈ o))) := by
      unfold dIn
      rw [in_tup]; rfl
    exact ⟨[.dat (tupI o), .dat (tupI p), .dat (.int z)], rfl, by simp [i2]⟩)
  have cq := comp_eq (src := lItemsT (eVar 1)) (js := [2]) (hs := hs) (hs1 := hs) rfl (by simp [lItemsT, tupI, tupOf]) (by rw [List.length_map]; omega) cm
  simp only [x_ret, x_fn, x_cons, x_nil, cq, Option.bind_some, Option.map_some, dAll, List.map_map]
  have : p.map (D.bl ∘ fun z => decide (z ∈ o)) = p.map fun x => D.bl ((fun z => decide (z ∈ o)) x) := rfl
  rw [this, blsD_map]
  simp
theorem find_put (k d : D) (q : NestedKey) : ∀ kvs : List (D × D), ((kvs.map fun p => if toKey p.1 = toKey k then (p.1, d) else p).find? fun p => decide (toKey p.1 = q)).map (·.2) = if toKey k = q then (kvs.find? fun p => decide (toKey p.1 = q)).map (fun _ => d) else (kvs.find? fun p => decide (toKey p.1 = q)).map (·.2)
  | [] => by simp
  | p :: kvs => by
    have ih := find_put k d q kvs
    rw [List.map_cons, List.find?_cons, List.find?_cons]
    have hk : toKey (if toKey p.1 = toKey k then (p.1, d) else p).1 = toKey p.1 := by split <;> rfl
    rw [hk]
    by_cases h1 : toKey p.1 = q
    · subst h1
      simp only [decide_true]
      by_cases h2 : toKey p.1 = toKey k
      · simp [h2]
      · have : ¬ toKey k = toKey p.1 := fun e => h2 e.symm
        simp [h2, this]
    · simp only [h1, decide_false]
      exact ih
theorem look_put (kvs : List (D × D)) (k d q : D) : lookD (putD kvs k d) q = if toKey k = toKey q then some d else lookD kvs q := by
  unfold lookD putD
  by_cases ha : kvs.any (fun p => decide (toKey p.1 = toKey k)) = true
  · rw [if_pos ha, find_put]
    by_cases hq : toKey k = toKey q
    · rw [if_pos hq, if_pos hq]
      obtain ⟨p, hp, he⟩ := List.any_eq_true.mp ha
      cases hf : kvs.find? fun p => decide (toKey p.1 = toKey q) with
      | none =>
        have := List.find?_eq_none.mp hf p hp
        rw [← hq] at this
        exact absurd he this
      | some r => rfl
    · rw [if_neg hq, if_neg hq]
  · rw [if_neg ha, List.find?_append]
    by_cases hq : toKey k = toKey q
    · rw [if_pos hq]
      have : kvs.find? (fun p => decide (toKey p.1 = toKey q)) = none := List.find?_eq_none.mpr fun p hp he => ha (List.any_eq_true.mpr ⟨p, hp, by rw [hq]; exact he⟩)
      rw [this]
      simp [hq]
    · rw [if_neg hq]
      simp [hq]
/-- a dict holds a number above 0 at a key -/
def Good (kvs : List (D × D)) (q : List Int) : Prop := ∃ z, lookD kvs (tupI q) = some (.int z) ∧ 0 < z ∧ z ≤ 1000000
theorem Good.put {kvs : List (D × D)} {q r : List Int} {z : Int} (h0 : 0 < z) (h1 : z ≤ 1000000) (h : Good kvs q) : Good (putD kvs (tupI r) (.int z)) q := by
  unfold Good
  rw [look_put]
  split
  · exact ⟨z, rfl, h0, h1⟩
  · exact h
theorem Good.new {kvs : List (D × D)} {q : List Int} {z : Int} (h0 : 0 < z) (h1 : z ≤ 1000000) : Good (putD kvs (tupI q) (.int z)) q := by
  unfold Good
  rw [look_put, if_pos rfl]
  exact ⟨z, rfl, h0, h1⟩
theorem put_eq {i : Nat} {fk fv : EDn} {Γ : Env} {hs hs1 hs2 : HS} {v : D} {z : Bool} {kvs : List (D × D)} {r : List Int} (h1 : fv Γ hs = some (v, hs1)) (h2 : fk Γ hs1 = some (tupI r, hs2)) (h3 : Γ[i]? = some (.own (.dic z kvs))) (hl : kvs.length < 100000) : sPut i fk fv Γ hs = some (.nx (Γ.set i (.own (.dic z (putD kvs (tupI r) v)))), hs2) := by
  unfold sPut
  rw [h1]
  simp only [Option.bind_some]
  rw [h2]
  simp only [Option.bind_some, h3]
  have hk8 : kOk 8 (tupI r) = true := kOk_tupI 7 _
  unfold tupI at *
  simp only [hk8, hl, and_self, if_true]
end Dl
/-! drawn tops. -/
namespace Dl
open PySem PySem.Spec PyProof.Rows L2
/-- all it holds is good -/
def AllG (kvs : List (D × D)) : Prop := ∀ q, (lookD kvs (tupI q)).isSome = true → Good kvs q
noncomputable def tpA (c : Cf) : SDn :=
    (sSeq (sAsg 8 (eCall (G_law_view c) (lCons (eVar 3) (lCons (eVar 4) lNil))))
    (sIf (bOf (ePeek 5 (eBin dNotInN (eVar 8) (eVar 5))))
    (sPut 5 (eVar 8) (eBin dAdd (eC (.int 1)) (eCall (G_law_draw c) (lCons (eVar 0) (lCons (eVar 7) lNil)))))
    sNext))
theorem ev_tpA {c : Cf} {k : Nat} {hs : HS} {ad : Addr} {S F p ct : List Int} {x1 x2 x6 : Sl} {tk : List (D × D)} {most : Int} {y3 y8 : Sl} (h : HI k hs) (ha : hs.ad = ad) (hk : k ≤ 900000) (hct : ct.length ≤ 100) (hl : tk.length < 50000) (m0 : 0 < most) (m1 : most ≤ 1000000) :
    ∃ tk' hs' y8', stepD (gd1 3) (tpA c) (tupI ct) [.dat (.hand ad), x1, x2, y3, .dat (tupI p), .own (.dic false tk), x6, .dat (.int most), y8] hs = some (.nx [.dat (.hand ad), x1, x2, .dat (tupI ct), .dat (tupI p), .own (.dic false tk'), x6, .dat (.int most), y8'], hs') ∧ HI (k + 1) hs' ∧ hs'.ad = ad ∧ tk'.length ≤ tk.length + 1 ∧ (∀ q, Good tk q → Good tk' q) ∧ (AllG tk → Good tk' (viewL ct p) ∧ AllG tk') := by
  have ev := ev_view (c := c) (hs := hs) (ct := ct) (p := p) hct
  have e0 : stepD (gd1 3) (tpA c) (tupI ct) [.dat (.hand ad), x1, x2, y3, .dat (tupI p), .own (.dic false tk), x6, .dat (.int most), y8] hs = sIf (bOf (ePeek 5 (eBin dNotInN (eVar 8) (eVar 5))))
    (sPut 5 (eVar 8) (eBin dAdd (eC (.int 1)) (eCall (G_law_draw c) (lCons (eVar 0) (lCons (eVar 7) lNil)))))
    sNext [.dat (.hand ad), x1, x2, .dat (tupI ct), .dat (tupI p), .own (.dic false tk), x6, .dat (.int most), .dat (tupI (viewL ct p))] hs := by
    show sSeq _ _ [.dat (.hand ad), x1, x2, .dat (tupI ct), .dat (tupI p), .own (.dic false tk), x6, .dat (.int most), y8] hs = _
    rw [seq_nx (asg (d := tupI (viewL ct p)) (hs' := hs) (by simp [ev]))]
    rfl
  have ni : dNotInN (tupI (viewL ct p)) (.dic false tk) = some (.bl (!(lookD tk (tupI (viewL ct p))).isSome)) := by
    have hk8 : kOk 8 (tupI (viewL ct p)) = true := kOk_tupI 7 _
    unfold dNotInN tupI at *
    simp only [hk8, if_true]
  have pk : ePeek 5 (eBin dNotInN (eVar 8) (eVar 5)) [.dat (.hand ad), x1, x2, .dat (tupI ct), .dat (tupI p), .own (.dic false tk), x6, .dat (.int most), .dat (tupI (viewL ct p))] hs = some (.bl (!(lookD tk (tupI (viewL ct p))).isSome), hs) := by
    simp [ePeek, frzE, frzD, ni, scalarD]
  rw [e0]
  cases hi : (lookD tk (tupI (viewL ct p))).isSome with
  | true =>
    rw [hi] at pk
    refine ⟨tk, hs, .dat (tupI (viewL ct p)), by simp [pk], h.mono (by omega), ha, by omega, fun q z => z, fun g => ⟨g _ hi, g⟩⟩
  | false =>
    rw [hi] at pk
    obtain ⟨r, hs', e, r0, r1, h3, ad3⟩ := ev_draw (c := c) (many := most) h (by omega) m0 (by omega)
    rw [ha] at e ad3
    have pe := put_eq (i := 5) (fk := eVar 8) (fv := eBin dAdd (eC (.int 1)) (eCall (G_law_draw c) (lCons (eVar 0) (lCons (eVar 7) lNil)))) (Γ := [.dat (.hand ad), x1, x2, .dat (tupI ct), .dat (tupI p), .own (.dic false tk), x6, .dat (.int most), .dat (tupI (viewL ct p))]) (hs := hs) (hs1 := hs') (hs2 := hs') (v := .int (1 + r)) (z := false) (kvs := tk) (r := viewL ct p) (by simp [e, dAdd_int]) (by simp) rfl (by omega)
    refine ⟨putD tk (tupI (viewL ct p)) (.int (1 + r)), hs', .dat (tupI (viewL ct p)), ?_, h3, ad3, putD_len _ _ _, fun q g => g.put (by omega) (by omega), fun g => ⟨Good.new (by omega) (by omega), fun q hq => ?_⟩⟩
    · rw [if_t (hs' := hs) (by simp [pk]), pe]
      rfl
    · rw [look_put] at hq
      by_cases hv : toKey (tupI (viewL ct p)) = toKey (tupI q)
      · have : viewL ct p = q := tupK_inj hv
        subst this
        exact Good.new (by omega) (by omega)
      · rw [if_neg hv] at hq
        exact (g q hq).put (by omega) (by omega)
theorem ev_tops {c : Cf} {k : Nat} {hs : HS} {S : List Int} {F : List (List Int)} (hS : Sz S) (hF : F.length ≤ 16) (h : HI k hs) (hk : k ≤ 800000) : ∃ tk bk hs', G_law_tops c [.hand hs.ad, tupI S, fD F] hs = some (.tup [.dic true tk, .dic true bk], hs') ∧ (∀ p ∈ F, Good bk p ∧ ∀ ct ∈ conts S, Good tk (viewL ct p)) ∧ HI (k + 6000) hs' ∧ hs'.ad = hs.ad := by
  have hcd := hS.card
  have most : ∃ m hs1, eIf (bOf (eBin dLtU (eFn dLen (lCons (eVar 2) lNil)) (eC (.int 5)))) (eCall (G_law_any c) (lCons (eVar 0) (lCons (eLst (lCons (eC (.int 2)) (lCons (eC (.int 5)) (lCons (eC (.int 30)) (lCons (eC (.int 1000)) (lCons (eBin dPow (eC (.int 10)) (eC (.int 6))) lNil)))))) lNil))) (eC (.int 7)) [.dat (.hand hs.ad), .dat (tupI S), .dat (fD F), .dead, .dead, .own (.dic false []), .own (.dic false []), .dead, .dead] hs = some (.int m, hs1) ∧ 0 < m ∧ m ≤ 1000000 ∧ HI (k + 1) hs1 ∧ hs1.ad = hs.ad := by
    by_cases h5 : (F.length : Int) < 5
    · obtain ⟨m, hs1, e1, hm, h1, ad1⟩ := any_ints' (c := c) (zs := [2, 5, 30, 1000, 1000000]) h (by omega) (by decide) (by decide)
      have e1' : G_law_any c [.hand hs.ad, .lst [.int 2, .int 5, .int 30, .int 1000, .int 1000000]] hs = some (.int m, hs1) := e1
      have p6 : dPow (.int 10) (.int 6) = some (.int 1000000) := by
        unfold dPow
        simp
      refine ⟨m, hs1, ?_, ?_, ?_, h1, ad1⟩
      · simp [dLen, dLtU_int, h5, p6, e1']
      · simp at hm; omega
      · simp at hm; omega
    · exact ⟨7, hs, by simp [dLen, dLtU_int, h5], by omega, by omega, h.mono (by omega), rfl⟩
  obtain ⟨m, hs1, em, m0, m1, h1, ad1⟩ := most
  have ec : ∀ h, G_law_contents c [tupI S] h = some (.lst ((conts S).map tupI), h) := fun h => ev_contents hS
  have loop := for_inv (step := stepD (gd1 4) (sSeq (sPut 6 (eVar 4) (eBin dAdd (eC (.int 1)) (eCall (G_law_draw c) (lCons (eVar 0) (lCons (eC (.int 4)) lNil)))))
    (sFor (lItemsL (eCall (G_law_contents c) (lCons (eVar 1) lNil))) (gd1 3) (tpA c)))) tupI (fun pre Γ h => HI (k + 1 + pre.length * 257) h ∧ h.ad = hs.ad ∧ ∃ j3 j4 tk bk j8, Γ = [.dat (.hand hs.ad), .dat (tupI S), .dat (fD F), j3, j4, .own (.dic false tk), .own (.dic false bk), .dat (.int m), j8] ∧ AllG tk ∧ tk.length ≤ pre.length * 256 ∧ bk.length ≤ pre.length ∧ ∀ p ∈ pre, Good bk p ∧ ∀ ct ∈ conts S, Good tk (viewL ct p)) F (Γ := [.dat (.hand hs.ad), .dat (tupI S), .dat (fD F), .dead, .dead, .own (.dic false []), .own (.dic false []), .dat (.int m), .dead]) (hs := hs1) ⟨by simpa using h1, ad1, _, _, [], [], _, rfl, fun q hq => by simp [lookD] at hq, by simp, by simp, fun p hp => by simp at hp⟩ (by
    rintro pre p post Γ hs2 hF2 ⟨h2, ad2, j3, j4, tk, bk, j8, rfl, ag, tl, bl, hg⟩
    have hlen : pre.length + 1 ≤ 16 := by
      have := congrArg List.length hF2
      simp at this
      omega
    obtain ⟨r, hs3, e3, r0, r1, h3, ad3⟩ := ev_draw (c := c) (many := 4) h2 (by omega) (by omega) (by omega)
    rw [ad2] at e3 ad3
    have pe := put_eq (i := 6) (fk := eVar 4) (fv := eBin dAdd (eC (.int 1)) (eCall (G_law_draw c) (lCons (eVar 0) (lCons (eC (.int 4)) lNil)))) (Γ := [.dat (.hand hs.ad), .dat (tupI S), .dat (fD F), j3, .dat (tupI p), .own (.dic false tk), .own (.dic false bk), .dat (.int m), j8]) (hs := hs2) (hs1 := hs3) (hs2 := hs3) (v := .int (1 + r)) (z := false) (kvs := bk) (r := p) (by simp [e3, dAdd_int]) (by simp) rfl (by omega)
    have e0 : ∀ a b : SDn, stepD (gd1 4) (sSeq a b) (tupI p) [.dat (.hand hs.ad), .dat (tupI S), .dat (fD F), j3, j4, .own (.dic false tk), .own (.dic false bk), .dat (.int m), j8] hs2 = sSeq a b [.dat (.hand hs.ad), .dat (tupI S), .dat (fD F), j3, .dat (tupI p), .own (.dic false tk), .own (.dic false bk), .dat (.int m), j8] hs2 := fun _ _ => rfl
    have inner := for_inv (step := stepD (gd1 3) (tpA c)) tupI (fun preC Γ h => HI (k + 1 + pre.length * 257 + 1 + preC.length) h ∧ h.ad = hs.ad ∧ ∃ j3 tk' j8, Γ = [.dat (.hand hs.ad), .dat (tupI S), .dat (fD F), j3, .dat (tupI p), .own (.dic false tk'), .own (.dic false (putD bk (tupI p) (.int (1 + r)))), .dat (.int m), j8] ∧ AllG tk' ∧ tk'.length ≤ pre.length * 256 + preC.length ∧ (∀ q, Good tk q → Good tk' q) ∧ ∀ ct ∈ preC, Good tk' (viewL ct p)) (conts S) (Γ := [.dat (.hand hs.ad), .dat (tupI S), .dat (fD F), j3, .dat (tupI p), .own (.dic false tk), .own (.dic false (putD bk (tupI p) (.int (1 + r)))), .dat (.int m), j8]) (hs := hs3) ⟨by simpa using h3, ad3, _, tk, _, rfl, ag, by simpa using tl, fun q z => z, fun ct hct => by simp at hct⟩ (by
      rintro preC ct postC Γ hs4 hC ⟨h4, ad4, i3, tk4, i8, rfl, ag4, tl4, mo4, vg4⟩
      have hcl : ct.length ≤ 100 := by
        have := conts_len (ss := S) (f := ct) (by rw [hC]; simp)
        have := hS.len
        omega
      have hpc : preC.length + 1 ≤ 256 := by
        have := congrArg List.length hC
        simp at this
        omega
      obtain ⟨tk5, hs5, y8, e5, h5, ad5, tl5, mo5, g5⟩ := ev_tpA (c := c) (p := p) (x1 := .dat (tupI S)) (x2 := .dat (fD F)) (x6 := .own (.dic false (putD bk (tupI p) (.int (1 + r))))) (y3 := i3) (y8 := i8) (S := S) (F := S) (tk := tk4) (most := m) h4 ad4 (by omega) hcl (by omega) m0 m1
      obtain ⟨gv, ga⟩ := g5 ag4
      refine ⟨_, hs5, e5, by simpa [Nat.add_assoc] using h5, ad5, _, tk5, _, rfl, ga, by rw [List.length_append]; simp; omega, fun q z => mo5 q (mo4 q z), fun x hx => ?_⟩
      rcases List.mem_append.mp hx with hx | hx
      · exact mo5 _ (vg4 x hx)
      · rw [List.mem_singleton.mp hx]; exact gv)
    obtain ⟨Γ', hs6, e6, h6, ad6, i3, tk6, i8, rfl, ag6, tl6, mo6, vg6⟩ := inner
    refine ⟨[.dat (.hand hs.ad), .dat (tupI S), .dat (fD F), i3, .dat (tupI p), .own (.dic false tk6), .own (.dic false (putD bk (tupI p) (.int (1 + r)))), .dat (.int m), i8], hs6, ?_, ?_, ad6, i3, .dat (tupI p), tk6, putD bk (tupI p) (.int (1 + r)), i8, rfl, ag6, ?_, ?_, fun x hx => ?_⟩
    · rw [e0, seq_nx pe]
      show sFor _ _ _ [.dat (.hand hs.ad), .dat (tupI S), .dat (fD F), j3, .dat (tupI p), .own (.dic false tk), .own (.dic false (putD bk (tupI p) (.int (1 + r)))), .dat (.int m), j8] hs3 = _
      rw [for_eq (items := (conts S).map tupI) (hs1 := hs3) (by simp [lItemsL, ec])]
      exact e6
    · refine h6.mono ?_
      rw [List.length_append]; simp; omega
    · rw [List.length_append]; simp; omega
    · have := putD_len bk (tupI p) (.int (1 + r))
      rw [List.length_append]; simp; omega
    · rcases List.mem_append.mp hx with hx | hx
      · obtain ⟨g1, g2⟩ := hg x hx
        exact ⟨g1.put (by omega) (by omega), fun ct hct => mo6 _ (g2 ct hct)⟩
      · rw [List.mem_singleton.mp hx]
        exact ⟨Good.new (by omega) (by omega), vg6⟩)
  obtain ⟨Γ', hs7, e7, h7, ad7, j3, j4, tk, bk, j8, rfl, ag, tl, bl, hg⟩ := loop
  refine ⟨tk, bk, hs7, fn_ret rfl ?_, hg, h7.mono (by omega), ad7⟩
  unfold dn_law_tops
  show sSeq _ _ [.dat (.hand hs.ad), .dat (tupI S), .dat (fD F), .dead, .dead, .dead, .dead, .dead, .dead] hs = _
  rw [seq_nx (Γ' := [.dat (.hand hs.ad), .dat (tupI S), .dat (fD F), .dead, .dead, .own (.dic false []), .own (.dic false []), .dead, .dead]) (hs' := hs) (by simp [sPar2])]
  rw [seq_nx (asg em)]
  rw [seq_nx (Γ' := [.dat (.hand hs.ad), .dat (tupI S), .dat (fD F), j3, j4, .own (.dic false tk), .own (.dic false bk), .dat (.int m), j8]) (hs' := hs7) (by
    show sFor _ _ _ [.dat (.hand hs.ad), .dat (tupI S), .dat (fD F), .dead, .dead, .own (.dic false []), .own (.dic false []), .dat (.int m), .dead] hs1 = _
    rw [for_eq (items := F.map tupI) (hs1 := hs1) (by simp [lItemsL])]
    exact e7)]
  simp [sFrz]
end Dl
/-! the woven weights. -/
namespace Dl
open PySem PySem.Spec PyProof.Rows L2
theorem stepD1 {i : Nat} {body : SDn} {d : D} {Γ : Env} {hs : HS} : stepD (gd1 i) body d Γ hs = body (Γ.set i (.dat d)) hs := rfl
def getZ (kvs : List (D × D)) (q : List Int) : Int := match lookD kvs (tupI q) with
  | some (.int z) => z
  | _ => 0
theorem Good.z {kvs : List (D × D)} {q : List Int} (h : Good kvs q) : lookD kvs (tupI q) = some (.int (getZ kvs q)) ∧ 0 < getZ kvs q ∧ getZ kvs q ≤ 1000000 := by
  obtain ⟨z, e, h0, h1⟩ := h
  have : getZ kvs q = z := by unfold getZ; rw [e]
  rw [this]
  exact ⟨e, h0, h1⟩
theorem Good.ix {b : Bool} {kvs : List (D × D)} {q : List Int} (h : Good kvs q) : dIxN (.dic b kvs) (tupI q) = some (.int (getZ kvs q)) := by
  have e := h.z.1
  have hk8 : kOk 8 (tupI q) = true := kOk_tupI 7 _
  unfold dIxN tupI at *
  simp only [hk8, if_true]
  exact e
def fac (tk bk : List (D × D)) (k : KY) (o : List Int) : Int := if (k.2.all fun z => decide (z ∈ o)) = true then getZ tk (viewL k.1 o) else getZ bk o
def wv (tk bk : List (D × D)) (os : List (List Int)) (k : KY) : Int := os.foldl (fun a o => a * fac tk bk k o) 1
theorem wv_snoc (tk bk : List (D × D)) (os : List (List Int)) (o : List Int) (k : KY) : wv tk bk (os ++ [o]) k = wv tk bk os k * fac tk bk k o := by
  unfold wv
  rw [List.foldl_append]; rfl
def TB (S : List Int) (F : List (List Int)) (tk bk : List (D × D)) : Prop := ∀ p ∈ F, Good bk p ∧ ∀ ct ∈ conts S, Good tk (viewL ct p)
section
variable {S : List Int} {F : List (List Int)} {tk bk : List (D × D)}
theorem TB.fac (h : TB S F tk bk) {k : KY} {o : List Int} (hk : k.1 ∈ conts S) (ho : o ∈ F) : 0 < Dl.fac tk bk k o ∧ Dl.fac tk bk k o ≤ 1000000 := by
  unfold Dl.fac
  split
  · exact ((h o ho).2 _ hk).z.2
  · exact (h o ho).1.z.2
theorem TB.fold_bd (h : TB S F tk bk) {k : KY} (hk : k.1 ∈ conts S) : ∀ (os : List (List Int)) (a : Int) (b : Nat), (∀ o ∈ os, o ∈ F) → 0 < a → a < (2 : Int) ^ b → 0 < os.foldl (fun a o => a * Dl.fac tk bk k o) a ∧ os.foldl (fun a o => a * Dl.fac tk bk k o) a < (2 : Int) ^ (b + 20 * os.length)
  | [], a, b, _, h0, h1 => ⟨h0, by simpa using h1⟩
  | o :: os, a, b, ho, h0, h1 => by
    obtain ⟨f1, f2⟩ := h.fac hk (ho o List.mem_cons_self)
    have m := two_pow_mul b 20 (Int.le_of_lt h0) (Int.le_of_lt f1) h1 (by omega)
    have ih := TB.fold_bd h hk os (a * Dl.fac tk bk k o) (b + 20) (fun x hx => ho x (List.mem_cons_of_mem _ hx)) (Int.mul_pos h0 f1) m
    have e : b + 20 + 20 * os.length = b + 20 * (o :: os).length := by simp only [List.length_cons]; omega
    rw [e] at ih
    exact ih
theorem TB.wv_bd (h : TB S F tk bk) {k : KY} (hk : k.1 ∈ conts S) (pre post : List (List Int)) (e : F = pre ++ post) : 0 < wv tk bk pre k ∧ wv tk bk pre k < (2 : Int) ^ (20 * pre.length + 1) := by
  have := h.fold_bd hk pre 1 1 (fun o ho => by rw [e]; simp [ho]) (by omega) (by omega)
  rw [Nat.add_comm]
  exact this
noncomputable def wvB (c : Cf) : SDn := sAsg 8 (eBin dMul (eVar 8) (eIf (bOf (eCall (G_law_has_all c) (lCons (eVar 4) (lCons (eVar 7) lNil)))) (eBin dIxN (eVar 2) (eCall (G_law_view c) (lCons (eVar 5) (lCons (eVar 4) lNil)))) (eBin dIxN (eVar 3) (eVar 4))))
theorem ev_wvB {c : Cf} {hs : HS} (h : TB S F tk bk) (hS : Sz S) (hF : F.length ≤ 16) (hpl : ∀ p ∈ F, p.length ≤ 4) {ct p : List Int} (hct : ct ∈ conts S) (hp : p ∈ F) {j4 j6 : Sl} :
    ∃ j4', sFor (lItemsL (eVar 1)) (gd1 4) (wvB c) [.dat (tupI S), .dat (fD F), .dat (.dic true tk), .dat (.dic true bk), j4, .dat (tupI ct), j6, .dat (tupI p), .dat (.int 1)] hs = some (.nx [.dat (tupI S), .dat (fD F), .dat (.dic true tk), .dat (.dic true bk), j4', .dat (tupI ct), j6, .dat (tupI p), .dat (.int (wv tk bk F (ct, p)))], hs) := by
  rw [for_eq (items := F.map tupI) (hs1 := hs) (by simp [lItemsL])]
  have loop := for_inv (step := stepD (gd1 4) (wvB c)) tupI (fun pre Γ h => h = hs ∧ ∃ j4, Γ = [.dat (tupI S), .dat (fD F), .dat (.dic true tk), .dat (.dic true bk), j4, .dat (tupI ct), j6, .dat (tupI p), .dat (.int (wv tk bk pre (ct, p)))]) F (Γ := [.dat (tupI S), .dat (fD F), .dat (.dic true tk), .dat (.dic true bk), j4, .dat (tupI ct), j6, .dat (tupI p), .dat (.int 1)]) (hs := hs) ⟨rfl, _, rfl⟩ (by
    rintro pre o post Γ hs1 hFe ⟨rfl, i4, rfl⟩
    have ho : o ∈ F := by rw [hFe]; simp
    have hlen : pre.length + 1 ≤ 16 := by
      have := congrArg List.length hFe
      simp at this
      omega
    have ev := ev_view (c := c) (hs := hs1) (ct := ct) (p := o) (by have := conts_len hct; have := hS.len; omega)
    have eh := ev_has_all (c := c) (hs := hs1) (o := o) (p := p) (by have := hpl p hp; omega)
    have g1 := (h o ho).1.ix (b := true)
    have g2 := ((h o ho).2 ct hct).ix (b := true)
    obtain ⟨b1, b2⟩ := h.wv_bd (k := (ct, p)) hct pre (o :: post) hFe
    obtain ⟨f1, f2⟩ := h.fac (k := (ct, p)) hct ho
    have m1 := dMul_int (mul_ok (20 * pre.length + 1) 20 (Int.le_of_lt b1) (Int.le_of_lt f1) b2 (by omega) (by omega))
    refine ⟨[.dat (tupI S), .dat (fD F), .dat (.dic true tk), .dat (.dic true bk), .dat (tupI o), .dat (tupI ct), j6, .dat (tupI p), .dat (.int (wv tk bk (pre ++ [o]) (ct, p)))], hs1, ?_, rfl, _, rfl⟩
    rw [wv_snoc]
    unfold fac at m1 ⊢
    have e0 : stepD (gd1 4) (wvB c) (tupI o) [.dat (tupI S), .dat (fD F), .dat (.dic true tk), .dat (.dic true bk), i4, .dat (tupI ct), j6, .dat (tupI p), .dat (.int (wv tk bk pre (ct, p)))] hs1 = wvB c [.dat (tupI S), .dat (fD F), .dat (.dic true tk), .dat (.dic true bk), .dat (tupI o), .dat (tupI ct), j6, .dat (tupI p), .dat (.int (wv tk bk pre (ct, p)))] hs1 := rfl
    rw [e0]
    unfold wvB
    cases hb : p.all fun z => decide (z ∈ o) with
    | true =>
      simp only [hb, if_true] at m1 eh ⊢
      simp only [x_asg, x_bin, x_eif, x_bof, x_call, x_cons, x_nil, x_var, List.getElem?_cons_succ, List.getElem?_cons_zero, Option.bind_some, Option.map_some, eh, ev, g2, if_true, m1]
      rfl
    | false =>
      simp only [hb, Bool.false_eq_true, if_false] at m1 eh ⊢
      simp only [x_asg, x_bin, x_eif, x_bof, x_call, x_cons, x_nil, x_var, List.getElem?_cons_succ, List.getElem?_cons_zero, Option.bind_some, Option.map_some, eh, ev, g1, Bool.false_eq_true, if_false, m1]
      rfl)
  obtain ⟨Γ', hs', e, rfl, j4', rfl⟩ := loop
  exact ⟨j4', e⟩
end
theorem put_eqK {i : Nat} {fk fv : EDn} {Γ : Env} {hs hs1 hs2 : HS} {v : D} {z : Bool} {kvs : List (D × D)} {r : KY} (h1 : fv Γ hs = some (v, hs1)) (h2 : fk Γ hs1 = some (keyD r, hs2)) (h3 : Γ[i]? = some (.own (.dic z kvs))) (hl : kvs.length < 100000) : sPut i fk fv Γ hs = some (.nx (Γ.set i (.own (.dic z (putD kvs (keyD r) v)))), hs2) := by
  unfold sPut
  rw [h1]
  simp only [Option.bind_some]
  rw [h2]
  simp only [Option.bind_some, h3]
  have hk8 := kOk_keyD r
  unfold keyD at *
  simp only [hk8, hl, and_self, if_true]
def kvW (ks : List KY) (w : KY → Int) : List (D × D) := ks.map fun k => (keyD k, D.int (w k))
theorem put_new {ks : List KY} {w : KY → Int} {k : KY} (h : k ∉ ks) : putD (kvW ks w) (keyD k) (.int (w k)) = kvW (ks ++ [k]) w := by
  unfold kvW
  have := putD_map (enc := keyD) (fun a b => keyD_inj) (fun k => D.int (w k)) k (.int (w k)) ks
  rw [if_neg h] at this
  rw [this]
  refine List.map_congr_left fun q _ => ?_
  by_cases hq : q = k
  · subst hq; simp
  · simp [hq]
theorem ev_woven {c : Cf} {hs : HS} {S : List Int} {F : List (List Int)} {tk bk : List (D × D)} (h : TB S F tk bk) (hS : Sz S) (hF : F.length ≤ 16) (hup : F.Pairwise (· < ·)) (hpl : ∀ p ∈ F, p.length ≤ 4) : G_law_woven c [tupI S, fD F, .dic true tk, .dic true bk] hs = some (keysW S F (wv tk bk F), hs) := by
  refine fn_ret rfl ?_
  have hcd := hS.card
  have ec : G_law_contents c [tupI S] hs = some (.lst ((conts S).map tupI), hs) := ev_contents hS
  have hnd := nodup_of_lt hup
  unfold dn_law_woven
  show sSeq _ _ [.dat (tupI S), .dat (fD F), .dat (.dic true tk), .dat (.dic true bk), .dead, .dead, .dead, .dead, .dead] hs = _
  rw [seq_nx (Γ' := [.dat (tupI S), .dat (fD F), .dat (.dic true tk), .dat (.dic true bk), .dead, .dead, .own (.dic false []), .dead, .dead]) (hs' := hs) (by simp [sOwn])]
  have loop := for_inv (step := stepD (gd1 5) (sFor (lItemsL (eVar 1)) (gd1 7)
    (sSeq (sAsg 8 (eC (.int 1)))
    (sSeq (sFor (lItemsL (eVar 1)) (gd1 4) (wvB c))
    (sPut 6 (eTup (lCons (eVar 5) (lCons (eVar 7) lNil))) (eVar 8)))))) tupI (fun pre Γ h => h = hs ∧ ∃ j4 j5 j7 j8, Γ = [.dat (tupI S), .dat (fD F), .dat (.dic true tk), .dat (.dic true bk), j4, j5, .own (.dic false (kvW (pre.flatMap fun ct => F.map fun p => (ct, p)) (wv tk bk F))), j7, j8]) (conts S) (Γ := [.dat (tupI S), .dat (fD F), .dat (.dic true tk), .dat (.dic true bk), .dead, .dead, .own (.dic false []), .dead, .dead]) (hs := hs) ⟨rfl, _, _, _, _, rfl⟩ (by
    rintro pre ct post Γ hs1 hC ⟨rfl, j4, j5, j7, j8, rfl⟩
    have hct : ct ∈ conts S := by rw [hC]; simp
    have hpre : ct ∉ pre := fun hm => by
      have nd := conts_nodup S
      rw [hC] at nd
      exact (List.nodup_append.mp nd).2.2 ct hm ct List.mem_cons_self rfl
    have hpc : pre.length + 1 ≤ 256 := by
      have := congrArg List.length hC
      simp at this
      omega
    have hfl : ∀ l : List (List Int), (l.flatMap fun ct => F.map fun p => (ct, p)).length = l.length * F.length := by
      intro l
      induction l with
      | nil => simp
      | cons a l ih => simp [List.flatMap_cons, ih, Nat.add_mul, Nat.add_comm]
    have hkl : (pre.flatMap fun ct => F.map fun p => (ct, p)).length ≤ 4096 := by
      rw [hfl]
      calc pre.length * F.length ≤ 256 * 16 := Nat.mul_le_mul (by omega) hF
        _ = 4096 := rfl
    have e0 : ∀ body : SDn, stepD (gd1 5) (sFor (lItemsL (eVar 1)) (gd1 7) body) (tupI ct) [.dat (tupI S), .dat (fD F), .dat (.dic true tk), .dat (.dic true bk), j4, j5, .own (.dic false (kvW (pre.flatMap fun ct => F.map fun p => (ct, p)) (wv tk bk F))), j7, j8] hs1 = forD (stepD (gd1 7) body) (F.map tupI) [.dat (tupI S), .dat (fD F), .dat (.dic true tk), .dat (.dic true bk), j4, .dat (tupI ct), .own (.dic false (kvW (pre.flatMap fun ct => F.map fun p => (ct, p)) (wv tk bk F))), j7, j8] hs1 := fun body => by
      rw [stepD1]
      simp only [List.set_cons_succ, List.set_cons_zero]
      rw [for_eq (items := F.map tupI) (hs1 := hs1) (by simp [lItemsL])]
    rw [e0]
    have inner := for_inv (step := stepD (gd1 7) (sSeq (sAsg 8 (eC (.int 1)))
    (sSeq (sFor (lItemsL (eVar 1)) (gd1 4) (wvB c))
    (sPut 6 (eTup (lCons (eVar 5) (lCons (eVar 7) lNil))) (eVar 8))))) tupI (fun pp Γ h => h = hs1 ∧ ∃ j4 j7 j8, Γ = [.dat (tupI S), .dat (fD F), .dat (.dic true tk), .dat (.dic true bk), j4, .dat (tupI ct), .own (.dic false (kvW ((pre.flatMap fun ct => F.map fun p => (ct, p)) ++ pp.map fun p => (ct, p)) (wv tk bk F))), j7, j8]) F (Γ := [.dat (tupI S), .dat (fD F), .dat (.dic true tk), .dat (.dic true bk), j4, .dat (tupI ct), .own (.dic false (kvW (pre.flatMap fun ct => F.map fun p => (ct, p)) (wv tk bk F))), j7, j8]) (hs := hs1) ⟨rfl, j4, j7, j8, by simp⟩ (by
      rintro pp p qq Γ hs2 hFe ⟨rfl, i4, i7, i8, rfl⟩
      have hp : p ∈ F := by rw [hFe]; simp
      have hpp : p ∉ pp := fun hm => by
        have nd := hnd
        rw [hFe] at nd
        exact (List.nodup_append.mp nd).2.2 p hm p List.mem_cons_self rfl
      have hlen : pp.length + 1 ≤ 16 := by
        have := congrArg List.length hFe
        simp at this
        omega
      have nin : ((ct, p) : KY) ∉ (pre.flatMap fun ct => F.map fun p => (ct, p)) ++ pp.map fun p => (ct, p) := fun hm => by
        rcases List.mem_append.mp hm with hm | hm
        · obtain ⟨a, ha, hb⟩ := List.mem_flatMap.mp hm
          obtain ⟨b, _, e⟩ := List.mem_map.mp hb
          have : a = ct := congrArg Prod.fst e
          exact hpre (this ▸ ha)
        · obtain ⟨b, hb, e⟩ := List.mem_map.mp hm
          have : b = p := congrArg Prod.snd e
          exact hpp (this ▸ hb)
      obtain ⟨j4', e1⟩ := ev_wvB (c := c) (hs := hs2) h hS hF hpl hct hp (j4 := i4) (j6 := .own (.dic false (kvW ((pre.flatMap fun ct => F.map fun p => (ct, p)) ++ pp.map fun p => (ct, p)) (wv tk bk F))))
      have pe := put_eqK (i := 6) (fk := eTup (lCons (eVar 5) (lCons (eVar 7) lNil))) (fv := eVar 8) (Γ := [.dat (tupI S), .dat (fD F), .dat (.dic true tk), .dat (.dic true bk), j4', .dat (tupI ct), .own (.dic false (kvW ((pre.flatMap fun ct => F.map fun p => (ct, p)) ++ pp.map fun p => (ct, p)) (wv tk bk F))), .dat (tupI p), .dat (.int (wv tk bk F (ct, p)))]) (hs := hs2) (hs1 := hs2) (hs2 := hs2) (v := .int (wv tk bk F (ct, p))) (z := false) (kvs := kvW ((pre.flatMap fun ct => F.map fun p => (ct, p)) ++ pp.map fun p => (ct, p)) (wv tk bk F)) (r := (ct, p)) (by simp) (by simp [keyD]) rfl (by unfold kvW; rw [List.length_map, List.length_append, List.length_map]; omega)
      rw [put_new nin] at pe
      refine ⟨[.dat (tupI S), .dat (fD F), .dat (.dic true tk), .dat (.dic true bk), j4', .dat (tupI ct), .own (.dic false (kvW ((pre.flatMap fun ct => F.map fun p => (ct, p)) ++ (pp ++ [p]).map fun p => (ct, p)) (wv tk bk F))), .dat (tupI p), .dat (.int (wv tk bk F (ct, p)))], hs2, ?_, rfl, _, _, _, rfl⟩
      rw [stepD1]
      simp only [List.set_cons_succ, List.set_cons_zero]
      rw [seq_nx (asg (d := .int 1) (hs' := hs2) rfl)]
      simp only [List.set_cons_succ, List.set_cons_zero]
      rw [seq_nx (Γ' := _) (hs' := hs2) e1, pe]
      simp)
    obtain ⟨Γ', hs', e, rfl, i4, i7, i8, rfl⟩ := inner
    exact ⟨_, hs', e, rfl, i4, .dat (tupI ct), i7, i8, by rw [List.flatMap_append]; simp⟩)
  obtain ⟨Γ', hs', e, rfl, j4, j5, j7, j8, rfl⟩ := loop
  rw [seq_nx (Γ' := [.dat (tupI S), .dat (fD F), .dat (.dic true tk), .dat (.dic true bk), j4, j5, .own (.dic false (kvW (prodK S F) (wv tk bk F))), j7, j8]) (hs' := hs') (by
    rw [for_eq (items := (conts S).map tupI) (hs1 := hs') (by simp [lItemsL, ec])]
    exact e)]
  simp [sFrz]
  rfl
end Dl
/-! weights made unlike. -/
namespace Dl
open PySem PySem.Spec PyProof.Rows L2
theorem any_keys {c : Cf} {k : Nat} {hs : HS} {ks : List KY} (h : HI k hs) (hk : k ≤ 1000000) (h0 : ks ≠ []) (h1 : ks.length ≤ 1000000) : ∃ z hs', G_law_any c [.hand hs.ad, .lst (ks.map keyD)] hs = some (keyD z, hs') ∧ z ∈ ks ∧ HI (k + 1) hs' ∧ hs'.ad = hs.ad := by
  have hp : 0 < ks.length := List.length_pos_iff.mpr h0
  obtain ⟨r, hs', e, r0, r1, H1, ad⟩ := ev_draw (c := c) (many := (ks.length : Nat)) h (by omega) (by omega) (by omega)
  have hr : r.toNat < ks.length := by omega
  refine ⟨ks[r.toNat], hs', fn_ret rfl (ret ?_), List.getElem_mem hr, H1, ad⟩
  have hix : atI (ks.map keyD) r = some (keyD ks[r.toNat]) := ix_int r0 (by simp [hr])
  simp [eBin, eVar, eCall, lCons, lNil, eFn, dLen_lst, e, dIx, hix]
def setW (w : KY → Int) (k : KY) (v : Int) : KY → Int := fun q => if q = k then v else w q
theorem setW_same (w : KY → Int) (k : KY) (v : Int) : setW w k v k = v := if_pos rfl
theorem setW_ne {w : KY → Int} {k q : KY} {v : Int} (h : q ≠ k) : setW w k v q = w q := if_neg h
theorem kvW_set {ks : List KY} {w : KY → Int} {k : KY} {v : Int} (h : k ∉ ks) : kvW ks (setW w k v) = kvW ks w := by
  unfold kvW
  refine List.map_congr_left fun q hq => ?_
  have : q ≠ k := fun e => h (e ▸ hq)
  show (keyD q, D.int (setW w k v q)) = (keyD q, D.int (w q))
  rw [setW_ne this]
theorem put_old {ks : List KY} {w : KY → Int} {k : KY} {v : Int} (h : k ∈ ks) : putD (kvW ks w) (keyD k) (.int v) = kvW ks (setW w k v) := by
  unfold kvW
  have := putD_map (enc := keyD) (fun a b => keyD_inj) (fun k => D.int (w k)) k (.int v) ks
  rw [if_pos h] at this
  rw [this]
  refine List.map_congr_left fun q _ => ?_
  unfold setW
  by_cases hq : q = k <;> simp [hq]
theorem put_new' {ks : List KY} {w : KY → Int} {k : KY} {v : Int} (h : k ∉ ks) : putD (kvW ks w) (keyD k) (.int v) = kvW (ks ++ [k]) (setW w k v) := by
  rw [← kvW_set (w := w) (v := v) h]
  have := put_new (w := setW w k v) h
  rw [setW_same] at this
  exact this
def Bd (ks : List KY) (w : KY → Int) (b : Nat) : Prop := ∀ k ∈ ks, 0 < w k ∧ w k < (2 : Int) ^ b
theorem Bd.snoc {ks : List KY} {w : KY → Int} {b : Nat} {k : KY} {v : Int} (h : Bd ks w b) (h0 : 0 < v) (h1 : v < (2 : Int) ^ b) : Bd (ks ++ [k]) (setW w k v) b := fun q hq => by
  by_cases e : q = k
  · subst e; rw [setW_same]; exact ⟨h0, h1⟩
  · rw [setW_ne e]
    rcases List.mem_append.mp hq with hq | hq
    · exact h q hq
    · exact absurd (List.mem_singleton.mp hq) e
theorem Bd.set {ks : List KY} {w : KY → Int} {b : Nat} {k : KY} {v : Int} (h : Bd ks w b) (h0 : 0 < v) (h1 : v < (2 : Int) ^ b) : Bd ks (setW w k v) b := fun q hq => by
  by_cases e : q = k
  · subst e; rw [setW_same]; exact ⟨h0, h1⟩
  · rw [setW_ne e]; exact h q hq
theorem pow_le {a b : Nat} (h : a ≤ b) : (2 : Int) ^ a ≤ (2 : Int) ^ b := by
  have := Nat.pow_le_pow_right (n := 2) (by omega) h
  exact_mod_cast this
theorem Bd.mono {ks : List KY} {w : KY → Int} {b d : Nat} (h : Bd ks w b) (e : b ≤ d) : Bd ks w d := fun q hq => ⟨(h q hq).1, Int.lt_of_lt_of_le (h q hq).2 (pow_le e)⟩
noncomputable def btA (c : Cf) : SDn := sPut 2 (eVar 3) (eIf (bOf (eBin dEqX (eVar 4) (eC (.int 0)))) (eBin dAdd (eC (.int 1)) (eCall (G_law_draw c) (lCons (eVar 0) (lCons (eC (.int 4)) lNil)))) (eBin dIxN (eVar 1) (eVar 3)))
noncomputable def btB (c : Cf) : SDn := (sSeq (sAsg 3 (eCall (G_law_any c) (lCons (eVar 0) (lCons (eVar 5) lNil))))
    (sPut 2 (eVar 3) (eBin dAdd (eBin dMul (ePeek 2 (eBin dIxN (eVar 2) (eVar 3))) (eCall (G_law_any c) (lCons (eVar 0) (lCons (eLst (lCons (eC (.int 2)) (lCons (eC (.int 3)) lNil))) lNil)))) (eCall (G_law_draw c) (lCons (eVar 0) (lCons (eC (.int 2)) lNil))))))
theorem ev_btA {c : Cf} {ad : Addr} {ks : List KY} {w : KY → Int} {b : Nat} {kind : Int} (hb : 3 ≤ b) (hw : Bd ks w b) (hl : ks.length ≤ 4096) {pre : List KY} {k : KY} {w' : KY → Int} {j : Nat} {hs : HS} {y3 y6 : Sl} (hk : k ∈ ks) (hp : k ∉ pre) (hpl : pre.length ≤ 4096) (h' : Bd pre w' b) (h : HI j hs) (hj : j ≤ 900000) (ha : hs.ad = ad) :
    ∃ v hs', stepD (gd1 3) (btA c) (keyD k) [.dat (.hand ad), .dat (wD true ks w), .own (.dic false (kvW pre w')), y3, .dat (.int kind), .dat (.lst (ks.map keyD)), y6] hs = some (.nx [.dat (.hand ad), .dat (wD true ks w), .own (.dic false (kvW (pre ++ [k]) (setW w' k v))), .dat (keyD k), .dat (.int kind), .dat (.lst (ks.map keyD)), y6], hs') ∧ Bd (pre ++ [k]) (setW w' k v) b ∧ HI (j + 1) hs' ∧ hs'.ad = ad := by
  have val : ∃ v hs', eIf (bOf (eBin dEqX (eVar 4) (eC (.int 0)))) (eBin dAdd (eC (.int 1)) (eCall (G_law_draw c) (lCons (eVar 0) (lCons (eC (.int 4)) lNil)))) (eBin dIxN (eVar 1) (eVar 3)) [.dat (.hand ad), .dat (wD true ks w), .own (.dic false (kvW pre w')), .dat (keyD k), .dat (.int kind), .dat (.lst (ks.map keyD)), y6] hs = some (.int v, hs') ∧ 0 < v ∧ v < (2 : Int) ^ b ∧ HI (j + 1) hs' ∧ hs'.ad = ad := by
    by_cases hz : kind = 0
    · obtain ⟨r, hs', e, r0, r1, h3, ad3⟩ := ev_draw (c := c) (many := 4) h (by omega) (by omega) (by omega)
      rw [ha] at e ad3
      have := pow_le hb
      exact ⟨1 + r, hs', by simp [dEqX_int, hz, e, dAdd_int], by omega, by omega, h3, ad3⟩
    · have i1 := ix_wD (z := true) (w := w) hk
      exact ⟨w k, hs, by simp [dEqX_int, hz, i1], (hw k hk).1, (hw k hk).2, h.mono (by omega), ha⟩
  obtain ⟨v, hs', ev, v0, v1, h1, ad1⟩ := val
  have pe := put_eqK (i := 2) (fk := eVar 3) (Γ := [.dat (.hand ad), .dat (wD true ks w), .own (.dic false (kvW pre w')), .dat (keyD k), .dat (.int kind), .dat (.lst (ks.map keyD)), y6]) (hs := hs) (hs1 := hs') (hs2 := hs') (z := false) (kvs := kvW pre w') (r := k) ev (by simp) rfl (by unfold kvW; rw [List.length_map]; omega)
  rw [put_new' hp] at pe
  refine ⟨v, hs', ?_, h'.snoc v0 v1, h1, ad1⟩
  rw [stepD1]
  simp only [List.set_cons_succ, List.set_cons_zero]
  unfold btA
  rw [pe]
  rfl
theorem ev_btB {c : Cf} {ad : Addr} {ks : List KY} {b : Nat} (hne : ks ≠ []) (hl : ks.length ≤ 4096) (hb : b ≤ 490) {w' : KY → Int} {j : Nat} {hs : HS} {x1 x4 y3 : Sl} {d6 : D} {y6 : Sl} (h' : Bd ks w' b) (h : HI j hs) (hj : j ≤ 900000) (ha : hs.ad = ad) :
    ∃ w2 y3' hs', stepD (gd1 6) (btB c) d6 [.dat (.hand ad), x1, .own (.dic false (kvW ks w')), y3, x4, .dat (.lst (ks.map keyD)), y6] hs = some (.nx [.dat (.hand ad), x1, .own (.dic false (kvW ks w2)), y3', x4, .dat (.lst (ks.map keyD)), .dat d6], hs') ∧ Bd ks w2 (b + 2) ∧ HI (j + 3) hs' ∧ hs'.ad = ad := by
  obtain ⟨k, hs1, e1, hk, h1, ad1⟩ := any_keys (c := c) h (by omega) hne (by omega)
  rw [ha] at e1 ad1
  obtain ⟨m, hs2, e2, hm, h2, ad2⟩ := any_ints' (c := c) (zs := [2, 3]) h1 (by omega) (by decide) (by decide)
  rw [ad1] at e2 ad2
  have e2' : G_law_any c [.hand ad, .lst [.int 2, .int 3]] hs1 = some (.int m, hs2) := e2
  obtain ⟨r, hs3, e3, r0, r1, h3, ad3⟩ := ev_draw (c := c) (many := 2) h2 (by omega) (by omega) (by omega)
  rw [ad2] at e3 ad3
  have hm2 : 2 ≤ m ∧ m ≤ 3 := by simp at hm; omega
  have i1 := ix_wD (z := false) (w := w') hk
  have hwk := h' k hk
  have m1 := dMul_int (mul_ok b 2 (Int.le_of_lt hwk.1) (by omega) hwk.2 (by omega : m < (2 : Int) ^ 2) (by omega))
  have pk : ePeek 2 (eBin dIxN (eVar 2) (eVar 3)) [.dat (.hand ad), x1, .own (.dic false (kvW ks w')), .dat (keyD k), x4, .dat (.lst (ks.map keyD)), .dat d6] hs1 = some (.int (w' k), hs1) := by
    unfold ePeek frzE
    simp only [List.getElem?_cons_succ, List.getElem?_cons_zero, frzD, List.set_cons_succ, List.set_cons_zero, x_bin, x_var, Option.bind_some]
    have i2 : dIxN (.dic false (kvW ks w')) (keyD k) = some (.int (w' k)) := i1
    simp [i2, scalarD]
  have pe := put_eqK (i := 2) (fk := eVar 3) (fv := eBin dAdd (eBin dMul (ePeek 2 (eBin dIxN (eVar 2) (eVar 3))) (eCall (G_law_any c) (lCons (eVar 0) (lCons (eLst (lCons (eC (.int 2)) (lCons (eC (.int 3)) lNil))) lNil)))) (eCall (G_law_draw c) (lCons (eVar 0) (lCons (eC (.int 2)) lNil)))) (Γ := [.dat (.hand ad), x1, .own (.dic false (kvW ks w')), .dat (keyD k), x4, .dat (.lst (ks.map keyD)), .dat d6]) (hs := hs1) (hs1 := hs3) (hs2 := hs3) (v := .int (w' k * m + r)) (z := false) (kvs := kvW ks w') (r := k) (by simp [pk, e2', e3, m1, dAdd_int]) (by simp) rfl (by unfold kvW; rw [List.length_map]; omega)
  rw [put_old hk] at pe
  refine ⟨setW w' k (w' k * m + r), .dat (keyD k), hs3, ?_, ?_, h3, ad3⟩
  · rw [stepD1]
    simp only [List.set_cons_succ, List.set_cons_zero]
    unfold btB
    rw [seq_nx (asg (d := keyD k) (hs' := hs1) (by simp [e1]))]
    simp only [List.set_cons_succ, List.set_cons_zero]
    rw [pe]
    rfl
  · have hm3 : w' k * m ≤ w' k * 3 := Int.mul_le_mul_of_nonneg_left hm2.2 (Int.le_of_lt hwk.1)
    have hm4 : 0 < w' k * m := Int.mul_pos hwk.1 (by omega)
    have e4 : (2 : Int) ^ (b + 2) = 2 ^ b * 4 := by rw [Int.pow_add]; rfl
    refine (h'.mono (by omega)).set (by omega) ?_
    rw [e4]
    omega
theorem ev_bent {c : Cf} {ks : List KY} {w : KY → Int} {b : Nat} (hup : ks.Pairwise klt) (hne : ks ≠ []) (hl : ks.length ≤ 4096) (hb : 3 ≤ b) (hb2 : b ≤ 400) (hw : Bd ks w b) {k : Nat} {hs : HS} (h : HI k hs) (hk : k ≤ 700000) : ∃ w' hs', G_law_bent c [.hand hs.ad, wD true ks w] hs = some (wD true ks w', hs') ∧ Bd ks w' (b + 4) ∧ HI (k + 5000) hs' ∧ hs'.ad = hs.ad := by
  obtain ⟨kind, hs1, e1, kd0, kd1, h1, ad1⟩ := ev_draw (c := c) (many := 6) h (by omega) (by omega) (by omega)
  have so := sorted_wD (z := true) (w := w) hup (by omega)
  have nd : ks.Nodup := hup.imp fun {a b} h e => by subst e; exact klt_irr _ h
  have loop := for_inv (step := stepD (gd1 3) (btA c)) keyD (fun pre Γ h => HI (k + 1 + pre.length) h ∧ h.ad = hs.ad ∧ ∃ w' y3 y6, Γ = [.dat (.hand hs.ad), .dat (wD true ks w), .own (.dic false (kvW pre w')), y3, .dat (.int kind), .dat (.lst (ks.map keyD)), y6] ∧ Bd pre w' b) ks (Γ := [.dat (.hand hs.ad), .dat (wD true ks w), .own (.dic false []), .dead, .dat (.int kind), .dat (.lst (ks.map keyD)), .dead]) (hs := hs1) ⟨by simpa using h1, ad1, fun _ => 0, _, _, rfl, fun q hq => by simp at hq⟩ (by
    rintro pre q post Γ hs2 hks ⟨h2, ad2, w', y3, y6, rfl, hbd⟩
    have hq : q ∈ ks := by rw [hks]; simp
    have hqp : q ∉ pre := fun hm => by
      rw [hks] at nd
      exact (List.nodup_append.mp nd).2.2 q hm q List.mem_cons_self rfl
    have hlen : pre.length + 1 ≤ 4096 := by
      have := congrArg List.length hks
      simp at this
      omega
    obtain ⟨v, hs3, e3, b3, h3, ad3⟩ := ev_btA (c := c) (kind := kind) (y3 := y3) (y6 := y6) hb hw hl hq hqp (by omega) hbd h2 (by omega) ad2
    exact ⟨_, hs3, e3, by simpa [Nat.add_assoc] using h3, ad3, _, _, _, rfl, b3⟩)
  obtain ⟨Γ', hs2, e2, h2, ad2, w2, y3, y6, rfl, hbd⟩ := loop
  have turns : ∃ n hs3, eIf (bOf (eBin dGt (eVar 4) (eC (.int 0)))) (eCall (G_law_any c) (lCons (eVar 0) (lCons (eLst (lCons (eC (.int 0)) (lCons (eC (.int 0)) (lCons (eC (.int 1)) (lCons (eC (.int 1)) (lCons (eC (.int 1)) (lCons (eC (.int 2)) lNil))))))) lNil))) (eC (.int 0)) [.dat (.hand hs.ad), .dat (wD true ks w), .own (.dic false (kvW ks w2)), y3, .dat (.int kind), .dat (.lst (ks.map keyD)), y6] hs2 = some (.int n, hs3) ∧ 0 ≤ n ∧ n ≤ 2 ∧ HI (k + 1 + ks.length + 1) hs3 ∧ hs3.ad = hs.ad := by
    by_cases hz : 0 < kind
    · obtain ⟨n, hs3, e3, hn, h3, ad3⟩ := any_ints' (c := c) (zs := [0, 0, 1, 1, 1, 2]) h2 (by omega) (by decide) (by decide)
      rw [ad2] at e3 ad3
      have e3' : G_law_any c [.hand hs.ad, .lst [.int 0, .int 0, .int 1, .int 1, .int 1, .int 2]] hs2 = some (.int n, hs3) := e3
      have hn2 : 0 ≤ n ∧ n ≤ 2 := by simp at hn; omega
      exact ⟨n, hs3, by simp [dGt_int, hz, e3'], hn2.1, hn2.2, h3, ad3⟩
    · exact ⟨0, hs2, by simp [dGt_int, hz], by omega, by omega, h2.mono (by omega), ad2⟩
  obtain ⟨n, hs3, e3, n0, n2, h3, ad3⟩ := turns
  have loop2 := for_inv (step := stepD (gd1 6) (btB c)) (fun (i : Nat) => D.int (i : Int)) (fun pre Γ h => HI (k + 1 + ks.length + 1 + 3 * pre.length) h ∧ h.ad = hs.ad ∧ ∃ w' y3 y6, Γ = [.dat (.hand hs.ad), .dat (wD true ks w), .own (.dic false (kvW ks w')), y3, .dat (.int kind), .dat (.lst (ks.map keyD)), y6] ∧ Bd ks w' (b + 2 * pre.length)) (List.range n.toNat) (Γ := [.dat (.hand hs.ad), .dat (wD true ks w), .own (.dic false (kvW ks w2)), y3, .dat (.int kind), .dat (.lst (ks.map keyD)), y6]) (hs := hs3) ⟨by simpa using h3, ad3, w2, _, _, rfl, by simpa using hbd⟩ (by
    rintro pre q post Γ hs4 hks ⟨h4, ad4, w4, i3, i6, rfl, hbd4⟩
    obtain ⟨_, hlt⟩ := range_at hks
    obtain ⟨w5, i3', hs5, e5, b5, h5, ad5⟩ := ev_btB (c := c) (x1 := .dat (wD true ks w)) (x4 := .dat (.int kind)) (y3 := i3) (d6 := .int q) (y6 := i6) hne hl (by omega) hbd4 h4 (by omega) ad4
    refine ⟨_, hs5, e5, ?_, ad5, _, _, _, rfl, ?_⟩
    · refine h5.mono ?_
      rw [List.length_append]; simp; omega
    · refine b5.mono ?_
      rw [List.length_append]; simp; omega)
  obtain ⟨Γ', hs6, e6, h6, ad6, w6, i3, i6, rfl, hbd6⟩ := loop2
  refine ⟨w6, hs6, fn_ret rfl ?_, hbd6.mono (by simp; omega), h6.mono (by simp; omega), ad6⟩
  unfold dn_law_bent
  show sSeq _ _ [.dat (.hand hs.ad), .dat (wD true ks w), .dead, .dead, .dead, .dead, .dead] hs = _
  rw [seq_nx (Γ' := [.dat (.hand hs.ad), .dat (wD true ks w), .dead, .dead, .dat (.int kind), .dead, .dead]) (hs' := hs1) (by simp [e1])]
  rw [seq_nx (Γ' := [.dat (.hand hs.ad), .dat (wD true ks w), .own (.dic false []), .dead, .dat (.int kind), .dat (.lst (ks.map keyD)), .dead]) (hs' := hs1) (by simp [sParO, so])]
  rw [seq_nx (Γ' := [.dat (.hand hs.ad), .dat (wD true ks w), .own (.dic false (kvW ks w2)), y3, .dat (.int kind), .dat (.lst (ks.map keyD)), y6]) (hs' := hs2) (by
    rw [for_eq (items := ks.map keyD) (hs1 := hs1) (items_eq (by simp))]
    exact e2)]
  rw [seq_nx (Γ' := [.dat (.hand hs.ad), .dat (wD true ks w), .own (.dic false (kvW ks w6)), i3, .dat (.int kind), .dat (.lst (ks.map keyD)), i6]) (hs' := hs6) (by
    rw [for_eq (rng1_eq (n := n) (hs1 := hs3) e3 (by omega) (by omega))]
    exact e6)]
  simp [sFrz]
  rfl
end Dl
/-! one weight made greater, or none. -/
namespace Dl
open PySem PySem.Spec PyProof.Rows L2
noncomputable def boA (c : Cf) : SDn := sPut 3 (eVar 2) (eBin dMul (eBin dIxN (eVar 1) (eVar 2)) (eBin dAdd (eC (.int 1)) (eBin dMul (eVar 5) (eFn dInt (lCons (eBin dEqX (eVar 2) (eVar 4)) lNil)))))
theorem eq_keyD (a b : KY) : ∃ r, dEqX (keyD a) (keyD b) = some (.bl r) := by
  have e : dEqX (keyD a) (keyD b) = dEq (keyD a) (keyD b) := rfl
  rw [e, dEq, if_pos ⟨ok_keyD a, ok_keyD b⟩]
  exact ⟨_, rfl⟩
theorem ev_boA {c : Cf} {hs : HS} {ks : List KY} {w : KY → Int} {b : Nat} {g : Int} (hb : b ≤ 400) (hw : Bd ks w b) (hl : ks.length ≤ 4096) (g0 : 0 ≤ g) (g1 : g ≤ 1) {pre : List KY} {k z : KY} {w' : KY → Int} {x0 y2 : Sl} (hk : k ∈ ks) (hp : k ∉ pre) (hpl : pre.length ≤ 4096) (h' : Bd pre w' (b + 1)) :
    ∃ v, stepD (gd1 2) (boA c) (keyD k) [x0, .dat (wD true ks w), y2, .own (.dic false (kvW pre w')), .dat (keyD z), .dat (.int g)] hs = some (.nx [x0, .dat (wD true ks w), .dat (keyD k), .own (.dic false (kvW (pre ++ [k]) (setW w' k v))), .dat (keyD z), .dat (.int g)], hs) ∧ Bd (pre ++ [k]) (setW w' k v) (b + 1) := by
  obtain ⟨r, er⟩ := eq_keyD k z
  have i1 := ix_wD (z := true) (w := w) hk
  have hwk := hw k hk
  have fk : ∃ f, eBin dAdd (eC (.int 1)) (eBin dMul (eVar 5) (eFn dInt (lCons (eBin dEqX (eVar 2) (eVar 4)) lNil))) [x0, .dat (wD true ks w), .dat (keyD k), .own (.dic false (kvW pre w')), .dat (keyD z), .dat (.int g)] hs = some (.int f, hs) ∧ 1 ≤ f ∧ f ≤ 2 := by
    cases r with
    | true =>
      have m1 := dMul_int (mul_ok 3 3 g0 (show (0 : Int) ≤ 1 by omega) (by omega) (by omega) (by omega))
      exact ⟨1 + g * 1, by simp [er, dInt, m1, dAdd_int], by omega, by omega⟩
    | false =>
      have m1 := dMul_int (mul_ok 3 3 g0 (show (0 : Int) ≤ 0 by omega) (by omega) (by omega) (by omega))
      exact ⟨1 + g * 0, by simp [er, dInt, m1, dAdd_int], by omega, by omega⟩
  obtain ⟨f, ef, f1, f2⟩ := fk
  have m2 := dMul_int (mul_ok b 2 (Int.le_of_lt hwk.1) (by omega) hwk.2 (by omega : f < (2 : Int) ^ 2) (by omega))
  have pe := put_eqK (i := 3) (fk := eVar 2) (fv := eBin dMul (eBin dIxN (eVar 1) (eVar 2)) (eBin dAdd (eC (.int 1)) (eBin dMul (eVar 5) (eFn dInt (lCons (eBin dEqX (eVar 2) (eVar 4)) lNil))))) (Γ := [x0, .dat (wD true ks w), .dat (keyD k), .own (.dic false (kvW pre w')), .dat (keyD z), .dat (.int g)]) (hs := hs) (hs1 := hs) (hs2 := hs) (v := .int (w k * f)) (z := false) (kvs := kvW pre w') (r := k) (by
    have e1 : eBin dIxN (eVar 1) (eVar 2) [x0, .dat (wD true ks w), .dat (keyD k), .own (.dic false (kvW pre w')), .dat (keyD z), .dat (.int g)] hs = some (.int (w k), hs) := by simp [i1]
    rw [x_bin, e1]
    simp only [Option.bind_some]
    rw [ef]
    simp only [Option.bind_some, m2, Option.map_some]) (by simp) rfl (by unfold kvW; rw [List.length_map]; omega)
  rw [put_new' hp] at pe
  have hm : w k * f ≤ w k * 2 := Int.mul_le_mul_of_nonneg_left f2 (Int.le_of_lt hwk.1)
  have hm0 : 0 < w k * f := Int.mul_pos hwk.1 (by omega)
  have e4 : (2 : Int) ^ (b + 1) = 2 ^ b * 2 := by rw [Int.pow_add]; rfl
  refine ⟨w k * f, ?_, h'.snoc hm0 (by omega)⟩
  rw [stepD1]
  simp only [List.set_cons_succ, List.set_cons_zero]
  unfold boA
  rw [pe]
  rfl
theorem ev_bent_once {c : Cf} {ks : List KY} {w : KY → Int} {b : Nat} (hup : ks.Pairwise klt) (hne : ks ≠ []) (hl : ks.length ≤ 4096) (hb2 : b ≤ 400) (hw : Bd ks w b) {k : Nat} {hs : HS} (h : HI k hs) (hk : k ≤ 700000) : ∃ w' hs', G_law_bent_once c [.hand hs.ad, wD true ks w] hs = some (wD true ks w', hs') ∧ Bd ks w' (b + 1) ∧ HI (k + 2) hs' ∧ hs'.ad = hs.ad := by
  obtain ⟨z, hs1, e1, hz, h1, ad1⟩ := any_keys (c := c) h (by omega) hne (by omega)
  obtain ⟨g, hs2, e2, hg, h2, ad2⟩ := any_ints' (c := c) (zs := [0, 1, 1]) h1 (by omega) (by decide) (by decide)
  rw [ad1] at e2 ad2
  have e2' : G_law_any c [.hand hs.ad, .lst [.int 0, .int 1, .int 1]] hs1 = some (.int g, hs2) := e2
  have hg2 : 0 ≤ g ∧ g ≤ 1 := by simp at hg; omega
  have so := sorted_wD (z := true) (w := w) hup (by omega)
  have nd : ks.Nodup := hup.imp fun {a b} h e => by subst e; exact klt_irr _ h
  have loop := for_inv (step := stepD (gd1 2) (boA c)) keyD (fun pre Γ h => h = hs2 ∧ ∃ w' y2, Γ = [.dat (.hand hs.ad), .dat (wD true ks w), y2, .own (.dic false (kvW pre w')), .dat (keyD z), .dat (.int g)] ∧ Bd pre w' (b + 1)) ks (Γ := [.dat (.hand hs.ad), .dat (wD true ks w), .dead, .own (.dic false []), .dat (keyD z), .dat (.int g)]) (hs := hs2) ⟨rfl, fun _ => 0, _, rfl, fun q hq => by simp at hq⟩ (by
    rintro pre q post Γ hs3 hks ⟨rfl, w', y2, rfl, hbd⟩
    have hq : q ∈ ks := by rw [hks]; simp
    have hqp : q ∉ pre := fun hm => by
      rw [hks] at nd
      exact (List.nodup_append.mp nd).2.2 q hm q List.mem_cons_self rfl
    have hlen : pre.length + 1 ≤ 4096 := by
      have := congrArg List.length hks
      simp at this
      omega
    obtain ⟨v, e3, b3⟩ := ev_boA (c := c) (hs := hs3) (z := z) (x0 := .dat (.hand hs.ad)) (y2 := y2) hb2 hw hl hg2.1 hg2.2 hq hqp (by omega) hbd
    exact ⟨_, hs3, e3, rfl, _, _, rfl, b3⟩)
  obtain ⟨Γ', hs3, e3, rfl, w', y2, rfl, hbd⟩ := loop
  refine ⟨w', hs3, fn_ret rfl ?_, hbd, h2, ad2⟩
  unfold dn_law_bent_once
  show sSeq _ _ [.dat (.hand hs.ad), .dat (wD true ks w), .dead, .dead, .dead, .dead] hs = _
  rw [seq_nx (Γ' := [.dat (.hand hs.ad), .dat (wD true ks w), .dead, .own (.dic false []), .dat (keyD z), .dead]) (hs' := hs1) (by simp [sParO, so, e1])]
  rw [seq_nx (Γ' := [.dat (.hand hs.ad), .dat (wD true ks w), .dead, .own (.dic false []), .dat (keyD z), .dat (.int g)]) (hs' := hs3) (by simp [e2'])]
  have hk2 : (ks.map fun k => (keyD k, D.int (w k))).map (·.1) = ks.map keyD := by simp
  rw [seq_nx (Γ' := [.dat (.hand hs.ad), .dat (wD true ks w), y2, .own (.dic false (kvW ks w')), .dat (keyD z), .dat (.int g)]) (hs' := hs3) (by
    rw [for_eq (items := ks.map keyD) (hs1 := hs3) (by
      unfold lItemsK
      simp only [x_var, List.getElem?_cons_succ, List.getElem?_cons_zero, Option.bind_some, wD, hk2])]
    exact e3)]
  simp [sFrz]
  rfl
end Dl
/-! what is due. -/
namespace Dl
open PySem PySem.Spec PyProof.Rows L2
theorem ev_is_column {c : Cf} {hs : HS} {x : D} {n : Int} (h : askD x = true) : G_law_is_column c [x, .int n] hs = some (.bl (isCol n x), hs) := by
  refine fn_ret rfl ?_
  unfold dn_law_is_column
  show sRet _ [.dat x, .dat (.int n)] hs = _
  have i1 := isi_int (c := c) h
  have i2 := isi_bool (c := c) h
  cases x <;> first | (cases h; done) | skip
  all_goals try (simp [i1, i2, isI, isB, isCol]; done)
  rename_i i
  have e : (decide (i ≤ n - 1)) = decide (i < n) := by
    by_cases z : i < n
    · have : i ≤ n - 1 := by omega
      simp [z, this]
    · have : ¬ i ≤ n - 1 := by omega
      simp [z, this]
  by_cases z : 0 ≤ i <;> simp [i1, i2, isI, isB, isCol, dLe, dLtU_int, z, e]
theorem notin_list (m : List Int) (F : List (List Int)) : dNotIn (tupI m) (.lst (F.map tupI)) = some (.bl (!decide (m ∈ F))) := by
  have h := in_list m F
  unfold dIn at h
  unfold dNotIn
  obtain ⟨b, e1, e2⟩ := Option.map_eq_some_iff.mp h
  rw [e1]
  injection e2 with e2
  rw [Option.map_some, e2]
theorem in_tup' (k : Int) (p : List Int) : dIn (.int k) (tupI p) = some (.bl (decide (k ∈ p))) := by
  unfold dIn
  rw [in_tup]; rfl
theorem oddsR_col {S : List Int} {ks : List KY} {w : KY → Int} {x : D} {y : PatD} (h : isCol S.length x = false) : oddsR S ks w x y = .exc .noCol := by
  unfold oddsR
  split <;> rw [h] <;> rfl
theorem tacc_snoc (w : KY → Int) (k : Nat) (q : List Int) (acc : List (D × D)) (cs : List (List Int)) (ct : List Int) : tacc w k q acc (cs ++ [ct]) = putD (tacc w k q acc cs) (tupI (wo k ct)) (frD (quo w q (more k q) ct)) := by
  unfold tacc
  rw [List.foldl_append]; rfl
theorem tacc_len (w : KY → Int) (k : Nat) (q : List Int) : ∀ (cs : List (List Int)) (acc : List (D × D)), (tacc w k q acc cs).length ≤ acc.length + cs.length
  | [], acc => by simp [tacc]
  | ct :: cs, acc => by
    have := tacc_len w k q cs (putD acc (tupI (wo k ct)) (frD (quo w q (more k q) ct)))
    have := putD_len acc (tupI (wo k ct)) (frD (quo w q (more k q) ct))
    have e : tacc w k q acc (ct :: cs) = tacc w k q (putD acc (tupI (wo k ct)) (frD (quo w q (more k q) ct))) cs := rfl
    rw [e, List.length_cons]
    omega
noncomputable def duA (c : Cf) : SDn := (sSeq (sAsg 7 (eBin dAdd (eBin dAdd (eSlT (eVar 5) none (some (eVar 3))) (eTup (lCons (eUn dNeg (eC (.int 1))) lNil))) (eSlT (eVar 5) (some (eBin dAdd (eVar 3) (eC (.int 1)))) none)))
    (sPut 6 (eVar 7) (eCall (G_law_low c) (lCons (eBin dIxN (eVar 2) (eTup (lCons (eVar 5) (lCons (eVar 4) lNil)))) (lCons (eBin dIxN (eVar 2) (eTup (lCons (eVar 5) (lCons (eVar 8) lNil)))) lNil)))))
noncomputable def duT (c : Cf) : SDn := (sSeq (sAsg 9 (eCall (G_law_uncalm c) (lCons (eVar 0) (lCons (eVar 1) (lCons (eVar 2) lNil)))))
    (sSeq (sIf (bOf (eBin dIsNot (eVar 9) (eC .non)))
    (sRet (eTup (lCons (eC (.str "refused")) (lCons (eC (.str "calm")) (lCons (eBin dIx (eVar 9) (eC (.int 0))) lNil)))))
    sNext)
    (sSeq (sOwn 6 (.dic false []))
    (sSeq (sFor (lItemsL (eCall (G_law_contents c) (lCons (eVar 0) lNil))) (gd1 5) (duA c))
    (sFrz 6 (sRet (eTup (lCons (eC (.str "told")) (lCons (eVar 6) lNil)))))))))
noncomputable def duP (c : Cf) : SDn := (sSeq (sAsg 8 (eFn dTuple (lCons (eFn dSorted (lCons (eBin dAdd (eVar 4) (eTup (lCons (eVar 3) lNil))) lNil)) lNil)))
    (sSeq (sIf (bOr (bOf (eBin dNotIn (eVar 4) (eVar 1))) (bOr (bOf (eBin dIn (eVar 3) (eVar 4))) (bOf (eBin dNotIn (eVar 8) (eVar 1)))))
    (sRet (eTup (lCons (eC (.str "refused")) (lCons (eC (.str "pattern")) (lCons (eC .non) lNil)))))
    sNext) (duT c)))
noncomputable def duQ (c : Cf) : SDn := (sSeq (sIf (bOr (bNot (bOf (eFn (dIsi c) (lCons (eVar 4) (lCons (eC (.ty "tuple")) lNil))))) (bNot (bOf (eFn dAll (lCons (eComp (lItemsT (eVar 4)) [10] (gd1 10) bYes (eCall (G_law_is_column c) (lCons (eVar 10) (lCons (eFn dLen (lCons (eVar 0) lNil)) lNil)))) lNil)))))
    (sRet (eTup (lCons (eC (.str "refused")) (lCons (eC (.str "pattern")) (lCons (eC .non) lNil)))))
    sNext) (duP c))
theorem due_eq (c : Cf) : dn_law_due c = sSeq (sIf (bNot (bOf (eCall (G_law_is_column c) (lCons (eVar 3) (lCons (eFn dLen (lCons (eVar 0) lNil)) lNil)))))
    (sRet (eTup (lCons (eC (.str "refused")) (lCons (eC (.str "column")) (lCons (eC .non) lNil)))))
    sNext) (duQ c) := rfl
section
variable {c : Cf} {hs : HS} {S : List Int} {F : List (List Int)} {w : KY → Int}
theorem ev_duA (h : LwOk S F w) {k : Nat} {q ct : List Int} (hct : ct ∈ conts S) (hq : q ∈ F) (hm : more k q ∈ F) {acc : List (D × D)} (hl : acc.length < 50000) {y5 y7 y9 : Sl} :
    stepD (gd1 5) (duA c) (tupI ct) [.dat (tupI S), .dat (fD F), .dat (keysW S F w), .dat (.int k), .dat (tupI q), y5, .own (.dic false acc), y7, .dat (tupI (more k q)), y9, .dead] hs = some (.nx [.dat (tupI S), .dat (fD F), .dat (keysW S F w), .dat (.int k), .dat (tupI q), .dat (tupI ct), .own (.dic false (putD acc (tupI (wo k ct)) (frD (quo w q (more k q) ct)))), .dat (tupI (wo k ct)), .dat (tupI (more k q)), y9, .dead], hs) := by
  have e1 : (k : Int) + 1 = ((k + 1 : Nat) : Int) := by omega
  have hcl := conts_len hct
  have hsl := h.sz.sz.len
  rw [stepD1]
  simp only [List.set_cons_succ, List.set_cons_zero]
  have s1 : eSlT (eVar 5) none (some (eVar 3)) [.dat (tupI S), .dat (fD F), .dat (keysW S F w), .dat (.int k), .dat (tupI q), .dat (tupI ct), .own (.dic false acc), y7, .dat (tupI (more k q)), y9, .dead] hs = some (tupI (ct.take k), hs) := by
    unfold eSlT
    simp only [x_var, List.getElem?_cons_zero, Option.bind_some, tupI, List.getElem?_cons_succ, cut_lo]
    rw [List.map_take]
  have s2 : eSlT (eVar 5) (some (eBin dAdd (eVar 3) (eC (.int 1)))) none [.dat (tupI S), .dat (fD F), .dat (keysW S F w), .dat (.int k), .dat (tupI q), .dat (tupI ct), .own (.dic false acc), y7, .dat (tupI (more k q)), y9, .dead] hs = some (tupI (ct.drop (k + 1)), hs) := by
    unfold eSlT
    simp only [x_bin, x_c, x_var, List.getElem?_cons_zero, Option.bind_some, tupI, List.getElem?_cons_succ, dAdd_int, Option.map_some, e1, cut_hi]
    rw [List.map_drop]
  have a1 : dAdd (tupI (ct.take k)) (tupI [-1]) = some (tupI (ct.take k ++ [-1])) := dAdd_tupI _ _ (by simp; omega)
  have a2 : dAdd (tupI (ct.take k ++ [-1])) (tupI (ct.drop (k + 1))) = some (tupI (wo k ct)) := dAdd_tupI _ _ (by simp; omega)
  have t1 : D.tup [.int (-1)] = tupI [-1] := rfl
  have i1 := ix_wD (z := true) (w := w) (show (ct, q) ∈ prodK S F from mem_prodK.mpr ⟨hct, hq⟩)
  have i2 := ix_wD (z := true) (w := w) (show (ct, more k q) ∈ prodK S F from mem_prodK.mpr ⟨hct, hm⟩)
  have kd : ∀ a b : List Int, D.tup [tupI a, tupI b] = keyD (a, b) := fun _ _ => rfl
  have b1 := h.wb _ (mem_prodK.mpr (show (ct, q).1 ∈ conts S ∧ (ct, q).2 ∈ F from ⟨hct, hq⟩))
  have b2 := h.wb _ (mem_prodK.mpr (show (ct, more k q).1 ∈ conts S ∧ (ct, more k q).2 ∈ F from ⟨hct, hm⟩))
  have lw := ev_law_low (c := c) (hs := hs) (w (ct, q)) (w (ct, more k q)) (Int.le_of_lt b1.1) b2.1 (Int.lt_trans b2.2 (by decide +kernel))
  unfold duA
  rw [seq_nx (Γ' := [.dat (tupI S), .dat (fD F), .dat (keysW S F w), .dat (.int k), .dat (tupI q), .dat (tupI ct), .own (.dic false acc), .dat (tupI (wo k ct)), .dat (tupI (more k q)), y9, .dead]) (hs' := hs) (by simp [s1, s2, dNeg, t1, a1, a2])]
  rw [put_eq (i := 6) (fk := eVar 7) (hs1 := hs) (hs2 := hs) (v := frD (quo w q (more k q) ct)) (z := false) (kvs := acc) (r := wo k ct) (by simp [kd, i1, i2, lw, quo]) (by simp) rfl (by omega)]
  rfl
theorem ev_duT (h : LwOk S F w) {k : Nat} {q : List Int} (hq : q ∈ F) (hm : more k q ∈ F) :
    duT c [.dat (tupI S), .dat (fD F), .dat (keysW S F w), .dat (.int k), .dat (tupI q), .dead, .dead, .dead, .dat (tupI (more k q)), .dead, .dead] hs = some (.ret (match uncalm S w (prodK S F) with | some j => .tup [.str "refused", .str "calm", .int (j : Nat)] | none => .tup [.str "told", .dic true (tdict S w k q)]), hs) := by
  obtain ⟨u1, u2⟩ := ev_law_uncalm (c := c) (hs := hs) h
  have hcd := h.sz.sz.card
  have ec : G_law_contents c [tupI S] hs = some (.lst ((conts S).map tupI), hs) := ev_contents h.sz.sz
  unfold duT
  cases hu : uncalm S w (prodK S F) with
  | some j =>
    obtain ⟨r, e⟩ := u1 j hu
    have n1 : dIsNot (.tup (.int j :: r)) .non = some (.bl true) := rfl
    have i1 : dIx (.tup (.int j :: r)) (.int 0) = some (.int j) := ix_int (by omega) (by simp)
    simp [e, n1, i1]
  | none =>
    have e := u2 hu
    rw [seq_nx (Γ' := [.dat (tupI S), .dat (fD F), .dat (keysW S F w), .dat (.int k), .dat (tupI q), .dead, .dead, .dead, .dat (tupI (more k q)), .dat .non, .dead]) (hs' := hs) (by simp [e])]
    rw [seq_nx (Γ' := [.dat (tupI S), .dat (fD F), .dat (keysW S F w), .dat (.int k), .dat (tupI q), .dead, .dead, .dead, .dat (tupI (more k q)), .dat .non, .dead]) (hs' := hs) (by simp [dIsNot])]
    rw [seq_nx (Γ' := [.dat (tupI S), .dat (fD F), .dat (keysW S F w), .dat (.int k), .dat (tupI q), .dead, .own (.dic false []), .dead, .dat (tupI (more k q)), .dat .non, .dead]) (hs' := hs) (by simp [sOwn])]
    have loop := for_inv (step := stepD (gd1 5) (duA c)) tupI (fun pre Γ h => h = hs ∧ ∃ y5 y7, Γ = [.dat (tupI S), .dat (fD F), .dat (keysW S F w), .dat (.int k), .dat (tupI q), y5, .own (.dic false (tacc w k q [] pre)), y7, .dat (tupI (more k q)), .dat .non, .dead]) (conts S) (Γ := [.dat (tupI S), .dat (fD F), .dat (keysW S F w), .dat (.int k), .dat (tupI q), .dead, .own (.dic false []), .dead, .dat (tupI (more k q)), .dat .non, .dead]) (hs := hs) ⟨rfl, _, _, rfl⟩ (by
      rintro pre ct post Γ hs1 hC ⟨rfl, y5, y7, rfl⟩
      have hct : ct ∈ conts S := by rw [hC]; simp
      have hpc : pre.length + 1 ≤ 256 := by
        have := congrArg List.length hC
        simp at this
        omega
      have tl := tacc_len w k q pre []
      have e5 := ev_duA (c := c) (hs := hs1) h hct hq hm (acc := tacc w k q [] pre) (by simp at tl; omega) (y5 := y5) (y7 := y7) (y9 := .dat .non)
      rw [← tacc_snoc] at e5
      exact ⟨_, hs1, e5, rfl, _, _, rfl⟩)
    obtain ⟨Γ', hs', e7, rfl, y5, y7, rfl⟩ := loop
    rw [seq_nx (Γ' := [.dat (tupI S), .dat (fD F), .dat (keysW S F w), .dat (.int k), .dat (tupI q), y5, .own (.dic false (tacc w k q [] (conts S))), y7, .dat (tupI (more k q)), .dat .non, .dead]) (hs' := hs') (by
      rw [for_eq (items := (conts S).map tupI) (hs1 := hs') (items_eq (by simp [ec]))]
      exact e7)]
    simp [sFrz]
    rfl
end
end Dl
/-! what is due, the whole. -/
namespace Dl
open PySem PySem.Spec PyProof.Rows L2
/-- short patterns -/
def PatD.short : PatD → Prop
  | .nums q => q.length ≤ 100
  | _ => True
def pcols (n : Int) : PatD → Bool
  | .nums q => q.all fun z => isCol n (.int z)
  | _ => false
theorem oddsR_pat {S : List Int} {F : List (List Int)} {w : KY → Int} {i : Int} {y : PatD} (hS : Sz S) (h : isCol S.length (.int i) = true) (hy : ∀ q, y = .nums q → ¬ (q ∈ F ∧ pairOk i F q = true)) : oddsR S (prodK S F) w (.int i) y = .exc .noPat := by
  unfold oddsR
  cases y with
  | nums q =>
    simp only [h, if_true]
    rw [if_neg]
    rintro ⟨h1, h2⟩
    have h3 : ¬ i ∈ q ∧ more i q ∈ famS (prodK S F) := by simpa [pairOk] using h2
    refine hy q rfl ⟨(fam_prod hS).mp h1, ?_⟩
    simp [pairOk, h3.1, (fam_prod hS).mp h3.2]
  | bl1 b => simp only [h, if_true]
  | str1 b => simp only [h, if_true]
  | tup0 => simp only [h, if_true]
  | other b => simp only [h, if_true]
theorem lot_cols : ∀ {q : List Int} {n last : Int}, -1 ≤ last → lotOk n last q = true → q.all (fun z => isCol n (.int z)) = true
  | [], _, _, _, _ => rfl
  | z :: q, n, last, h0, h => by
    have h' : (last + 1 ≤ z ∧ z ≤ n - 1) ∧ lotOk n z q = true := by simpa [lotOk] using h
    have := lot_cols (q := q) (n := n) (last := z) (by omega) h'.2
    rw [List.all_cons, this]
    simp [isCol]
    omega
section
variable {c : Cf} {hs : HS} {S : List Int} {F : List (List Int)} {w : KY → Int}
theorem ev_duQ_no (h : LwOk S F w) {k : Nat} {y : PatD} (hy : y.okP) (hs2 : y.short) (hp : pcols S.length y = false) :
    duQ c [.dat (tupI S), .dat (fD F), .dat (keysW S F w), .dat (.int k), .dat y.d, .dead, .dead, .dead, .dead, .dead, .dead] hs = some (.ret (.tup [.str "refused", .str "pattern", .non]), hs) := by
  have it := isi_tuple (c := c) (PatD.ask hy)
  have ll : dLen [tupI S] = some (.int S.length) := by simp [tupI, dLen]
  have one : ∀ (x : D), askD x = true → isCol S.length x = false → y.d = .tup [x] → duQ c [.dat (tupI S), .dat (fD F), .dat (keysW S F w), .dat (.int k), .dat y.d, .dead, .dead, .dead, .dead, .dead, .dead] hs = some (.ret (.tup [.str "refused", .str "pattern", .non]), hs) := by
    intro x ax cx ex
    have e := ev_is_column (c := c) (hs := hs) (n := (S.length : Int)) ax
    rw [cx] at e
    rw [ex] at it ⊢
    have cm : compD (gd1 10) bYes (eCall (G_law_is_column c) (lCons (eVar 10) (lCons (eFn dLen (lCons (eVar 0) lNil)) lNil))) [.dat (tupI S), .dat (fD F), .dat (keysW S F w), .dat (.int k), .dat (.tup [x]), .dead, .dead, .dead, .dead, .dead, .dead] [x] hs = some ([.bl false], hs) := by
      simp [compD, gd1, bYes, ll, e]
    have cq := comp_eq (src := lItemsT (eVar 4)) (js := [10]) (hs := hs) (hs1 := hs) rfl (by simp [lItemsT, tupOf]) (by simp) cm
    have da : dAll [.lst [.bl false]] = some (.bl false) := rfl
    have tt : isT (.tup [x]) = true := rfl
    unfold duQ
    simp only [x_seq, x_if, x_or, x_not, x_bof, x_fn, x_cons, x_nil, x_var, x_c, x_ret, x_tup, List.getElem?_cons_succ, List.getElem?_cons_zero, Option.bind_some, Option.map_some, it, tt, Bool.not_true, Bool.false_eq_true, if_false, cq, da, Bool.not_false, if_true]
  cases y with
  | nums q =>
    have hql : q.length ≤ 100 := hs2
    have hall : (q.all fun z => isCol S.length (.int z)) = false := hp
    have cm := comp_map (gd := gd1 10) (elt := eCall (G_law_is_column c) (lCons (eVar 10) (lCons (eFn dLen (lCons (eVar 0) lNil)) lNil))) (Γ := [.dat (tupI S), .dat (fD F), .dat (keysW S F w), .dat (.int k), .dat (tupI q), .dead, .dead, .dead, .dead, .dead, .dead]) (hs := hs) D.int D.bl (fun z => isCol S.length (.int z)) q (fun z hz => by
      have e := ev_is_column (c := c) (hs := hs) (x := .int z) (n := (S.length : Int)) rfl
      exact ⟨[.dat (tupI S), .dat (fD F), .dat (keysW S F w), .dat (.int k), .dat (tupI q), .dead, .dead, .dead, .dead, .dead, .dat (.int z)], rfl, by simp [ll, e]⟩)
    have cq := comp_eq (src := lItemsT (eVar 4)) (js := [10]) (hs := hs) (hs1 := hs) rfl (by simp [lItemsT, tupI, tupOf]) (by rw [List.length_map]; omega) cm
    have da : dAll [.lst ((q.map fun z => isCol S.length (.int z)).map D.bl)] = some (.bl false) := by
      have := blsD_map (fun z : Int => isCol S.length (.int z)) q
      rw [List.map_map]
      show Option.map _ (blsD (q.map fun z => D.bl (isCol S.length (.int z)))) = _
      rw [this, Option.map_some]
      congr 2
      rw [List.all_map]
      exact hall
    have tt : isT (tupI q) = true := rfl
    have it' : dIsi c [tupI q, .ty "tuple"] = some (.bl (isT (tupI q))) := it
    unfold duQ
    rw [show PatD.d (.nums q) = tupI q from rfl]
    simp only [x_seq, x_if, x_or, x_not, x_bof, x_fn, x_cons, x_nil, x_var, x_c, x_ret, x_tup, List.getElem?_cons_succ, List.getElem?_cons_zero, Option.bind_some, Option.map_some, it', tt, Bool.not_true, Bool.false_eq_true, if_false, cq, da, Bool.not_false, if_true]
  | bl1 b => exact one (.bl b) rfl rfl rfl
  | str1 b => exact one (.str b) rfl rfl rfl
  | tup0 => exact one (.tup []) rfl rfl rfl
  | other z =>
    have tt : isT (PatD.d (.other z)) = false := hy.1
    rw [tt] at it
    unfold duQ
    simp only [x_seq, x_if, x_or, x_not, x_bof, x_fn, x_cons, x_nil, x_var, x_c, x_ret, x_tup, List.getElem?_cons_succ, List.getElem?_cons_zero, Option.bind_some, Option.map_some, it, Bool.not_false, if_true]
theorem ev_duQ_yes {k : Nat} {q : List Int} (hql : q.length ≤ 100) (hall : (q.all fun z => isCol S.length (.int z)) = true) :
    duQ c [.dat (tupI S), .dat (fD F), .dat (keysW S F w), .dat (.int k), .dat (tupI q), .dead, .dead, .dead, .dead, .dead, .dead] hs = duP c [.dat (tupI S), .dat (fD F), .dat (keysW S F w), .dat (.int k), .dat (tupI q), .dead, .dead, .dead, .dead, .dead, .dead] hs := by
  have ll : dLen [tupI S] = some (.int S.length) := by simp [tupI, dLen]
  have it : dIsi c [tupI q, .ty "tuple"] = some (.bl true) := isi_tuple (x := tupI q) rfl
  have cm := comp_map (gd := gd1 10) (elt := eCall (G_law_is_column c) (lCons (eVar 10) (lCons (eFn dLen (lCons (eVar 0) lNil)) lNil))) (Γ := [.dat (tupI S), .dat (fD F), .dat (keysW S F w), .dat (.int k), .dat (tupI q), .dead, .dead, .dead, .dead, .dead, .dead]) (hs := hs) D.int D.bl (fun z => isCol S.length (.int z)) q (fun z hz => by
    have e := ev_is_column (c := c) (hs := hs) (x := .int z) (n := (S.length : Int)) rfl
    exact ⟨[.dat (tupI S), .dat (fD F), .dat (keysW S F w), .dat (.int k), .dat (tupI q), .dead, .dead, .dead, .dead, .dead, .dat (.int z)], rfl, by simp [ll, e]⟩)
  have cq := comp_eq (src := lItemsT (eVar 4)) (js := [10]) (hs := hs) (hs1 := hs) rfl (by simp [lItemsT, tupI, tupOf]) (by rw [List.length_map]; omega) cm
  have da : dAll [.lst ((q.map fun z => isCol S.length (.int z)).map D.bl)] = some (.bl true) := by
    have := blsD_map (fun z : Int => isCol S.length (.int z)) q
    rw [List.map_map]
    show Option.map _ (blsD (q.map fun z => D.bl (isCol S.length (.int z)))) = _
    rw [this, Option.map_some]
    congr 2
    rw [List.all_map]
    exact hall
  unfold duQ
  refine seq_nx ?_
  simp only [x_if, x_or, x_not, x_bof, x_fn, x_cons, x_nil, x_var, x_c, x_next, List.getElem?_cons_succ, List.getElem?_cons_zero, Option.bind_some, Option.map_some, it, Bool.not_true, Bool.false_eq_true, if_false, cq, da]
theorem ev_due (h : LwOk S F w) {x : D} {y : PatD} (hx : askD x = true) (hy : y.okP) (hsh : y.short) : G_law_due c [tupI S, fD F, keysW S F w, x, y.d] hs = some (dueD S (prodK S F) w x y true, hs) := by
  refine fn_ret rfl ?_
  show dn_law_due c [.dat (tupI S), .dat (fD F), .dat (keysW S F w), .dat x, .dat y.d, .dead, .dead, .dead, .dead, .dead, .dead] hs = _
  rw [due_eq]
  have ll : dLen [tupI S] = some (.int S.length) := by simp [tupI, dLen]
  have e := ev_is_column (c := c) (hs := hs) (n := (S.length : Int)) hx
  cases hc : isCol S.length x with
  | false =>
    rw [hc] at e
    have : dueD S (prodK S F) w x y true = .tup [.str "refused", .str "column", .non] := by
      unfold dueD
      rw [oddsR_col hc]
    rw [this]
    simp [ll, e]
  | true =>
    rw [hc] at e
    rw [seq_nx (Γ' := [.dat (tupI S), .dat (fD F), .dat (keysW S F w), .dat x, .dat y.d, .dead, .dead, .dead, .dead, .dead, .dead]) (hs' := hs) (by simp [ll, e])]
    obtain ⟨i, rfl⟩ : ∃ i, x = .int i := by cases x <;> first | (simp [isCol] at hc; done) | exact ⟨_, rfl⟩
    have hi : 0 ≤ i ∧ i ≤ (S.length : Int) - 1 := by simpa [isCol] using hc
    obtain ⟨k, rfl⟩ : ∃ k : Nat, i = k := ⟨i.toNat, by omega⟩
    have pat : oddsR S (prodK S F) w (.int k) y = .exc .noPat → dueD S (prodK S F) w (.int k) y true = .tup [.str "refused", .str "pattern", .non] := fun e => by
      unfold dueD
      rw [e]
    cases hp : pcols S.length y with
    | false =>
      rw [ev_duQ_no h hy hsh hp, pat (oddsR_pat h.sz.sz hc fun q hq => ?_)]
      subst hq
      rintro ⟨h1, _⟩
      have := lot_cols (by omega) (h.lot q h1)
      have hp' : (q.all fun z => isCol S.length (.int z)) = false := hp
      rw [this] at hp'
      cases hp'
    | true =>
      obtain ⟨q, rfl⟩ : ∃ q, y = .nums q := by cases y <;> first | (simp [pcols] at hp; done) | exact ⟨_, rfl⟩
      have hql : q.length ≤ 100 := hsh
      rw [show PatD.d (.nums q) = tupI q from rfl, ev_duQ_yes hql hp]
      have t1 : D.tup [.int k] = tupI [(k : Int)] := rfl
      have a1 : dAdd (tupI q) (tupI [(k : Int)]) = some (tupI (q ++ [(k : Int)])) := dAdd_tupI _ _ (by simp; omega)
      have a2 : dSorted [tupI (q ++ [(k : Int)])] = some (.lst ((more k q).map D.int)) := ev_sorted_tup (by simp; omega)
      have a3 : dTuple [.lst ((more k q).map D.int)] = some (tupI (more k q)) := rfl
      have n1 := notin_list q F
      have n2 := in_tup' k q
      have n3 := notin_list (more k q) F
      unfold duP
      rw [seq_nx (Γ' := [.dat (tupI S), .dat (fD F), .dat (keysW S F w), .dat (.int k), .dat (tupI q), .dead, .dead, .dead, .dat (tupI (more k q)), .dead, .dead]) (hs' := hs) (by simp [t1, a1, a2, a3])]
      by_cases hq : q ∈ F ∧ pairOk k F q = true
      · have h3 : ¬ (k : Int) ∈ q ∧ more k q ∈ F := by simpa [pairOk] using hq.2
        rw [seq_nx (Γ' := [.dat (tupI S), .dat (fD F), .dat (keysW S F w), .dat (.int k), .dat (tupI q), .dead, .dead, .dead, .dat (tupI (more k q)), .dead, .dead]) (hs' := hs) (by
          simp only [hq.1, h3.1, h3.2, decide_true, decide_false, Bool.not_true] at n1 n2 n3
          simp [n1, n2, n3])]
        rw [ev_duT h hq.1 h3.2]
        have o : oddsR S (prodK S F) w (.int k) (.nums q) = match uncalm S w (prodK S F) with | some j => .exc (.notCalm (j : Nat)) | none => .retO (.dic false (tdict S w k q)) := by
          unfold oddsR
          simp only [hc, if_true]
          rw [if_pos ⟨(fam_prod h.sz.sz).mpr hq.1, by simp [pairOk, h3.1, (fam_prod h.sz.sz).mpr h3.2]⟩]
          rfl
        unfold dueD
        rw [o]
        cases uncalm S w (prodK S F) <;> rfl
      · rw [pat (oddsR_pat h.sz.sz hc fun q' hq' => by cases hq'; exact hq)]
        have : ¬ (q ∈ F ∧ ¬ (k : Int) ∈ q ∧ more k q ∈ F) := fun z => hq ⟨z.1, by simp [pairOk, z.2.1, z.2.2]⟩
        by_cases c1 : q ∈ F <;> by_cases c2 : (k : Int) ∈ q <;> by_cases c3 : more k q ∈ F <;>
          first | (exact (this ⟨c1, c2, c3⟩).elim) | (simp only [c1, c2, c3, decide_true, decide_false, Bool.not_true, Bool.not_false] at n1 n2 n3; simp [n1, n2, n3])
end
end Dl
/-! told against due. -/
namespace Dl
open PySem PySem.Spec PyProof.Rows L2
theorem putD_vals {kvs : List (D × D)} {k d : D} {P : D → Prop} (h : ∀ p ∈ kvs, P p.2) (hd : P d) : ∀ p ∈ putD kvs k d, P p.2 := by
  unfold putD
  split
  · intro p hp
    obtain ⟨q, hq, rfl⟩ := List.mem_map.mp hp
    split
    · exact hd
    · exact h q hq
  · intro p hp
    rcases List.mem_append.mp hp with hp | hp
    · exact h p hp
    · rw [List.mem_singleton.mp hp]; exact hd
theorem tacc_ok (w : KY → Int) (k : Nat) (q : List Int) : ∀ (cs : List (List Int)) (acc : List (D × D)), (∀ p ∈ acc, ok p.2 = true) → ∀ p ∈ tacc w k q acc cs, ok p.2 = true
  | [], acc, h => h
  | ct :: cs, acc, h => tacc_ok w k q cs (putD acc (tupI (wo k ct)) (frD (quo w q (more k q) ct))) (putD_vals (P := fun d => ok d = true) h (ok_frD _))
theorem okS {x : Str} (h : PyData.strOk x = true) : ok (.str x) = true := by simp [ok, pOk, toPy, SeqAt.shaped, PyData.canLay0, PyData.depth, h]
theorem ok_refused {a b : Str} (h1 : PyData.strOk a = true) (h2 : PyData.strOk b = true) : ok (.tup [.str a, .str b, .non]) = true := by simp [ok, pOk, pOks, toPy, toPys, SeqAt.shaped, PyData.canLay0, PyData.canLayAll0, PyData.depth, PyData.depthAll, h1, h2]
theorem ok_refusedI {a b : Str} (i : Int) (h1 : PyData.strOk a = true) (h2 : PyData.strOk b = true) : ok (.tup [.str a, .str b, .int i]) = true := by simp [ok, pOk, pOks, toPy, toPys, SeqAt.shaped, PyData.canLay0, PyData.canLayAll0, PyData.depth, PyData.depthAll, h1, h2]
theorem sk_refused : PyData.strOk "refused" = true := by decide +kernel
theorem sk_column : PyData.strOk "column" = true := by decide +kernel
theorem sk_pattern : PyData.strOk "pattern" = true := by decide +kernel
theorem sk_calm : PyData.strOk "calm" = true := by decide +kernel
theorem sk_told : PyData.strOk "told" = true := by decide +kernel
theorem ne_self {d : D} (h : ok d = true) : dNe d d = some (.bl false) := by
  have hp : pOk d = true := by
    unfold ok at h
    rw [Bool.and_eq_true] at h
    exact h.1
  rw [dNe, if_pos ⟨h, h⟩, eqv_self hp]; rfl
theorem dueD_cases (S : List Int) (ks : List KY) (w : KY → Int) (x : D) (y : PatD) : (∃ d, toldR S ks w x y = .ret d ∧ (∀ z, dueD S ks w x y z = d) ∧ dNeU d d = some (.bl false) ∧ dIx d (.int 0) = some (.str "refused") ∧ frzD d = d) ∨ ∃ kvs, toldR S ks w x y = .retO (.tup [.str "told", .dic false kvs]) ∧ (∀ z, dueD S ks w x y z = .tup [.str "told", .dic z kvs]) ∧ dNeU (.tup [.str "told", .dic false kvs]) (.tup [.str "told", .dic true kvs]) = some (.bl false) := by
  unfold toldR dueD
  rcases oddsR_cases S ks w x y with e | e | ⟨j, e⟩ | ⟨k, q, e⟩ <;> rw [e]
  · exact .inl ⟨_, rfl, fun _ => rfl, ne_self (ok_refused sk_refused sk_column), rfl, rfl⟩
  · exact .inl ⟨_, rfl, fun _ => rfl, ne_self (ok_refused sk_refused sk_pattern), rfl, rfl⟩
  · exact .inl ⟨_, rfl, fun _ => rfl, ne_self (ok_refusedI _ sk_refused sk_calm), rfl, rfl⟩
  · refine .inr ⟨_, rfl, fun _ => rfl, ?_⟩
    unfold dNeU dNeTold
    exact if_pos ⟨rfl, rfl, okS sk_told, tacc_ok w k q _ [] (by simp)⟩
theorem eq_told : dEqX (.str "told") (.str "told") = some (.bl true) := by
  rw [dEqX_ok (.inl rfl) (okS sk_told) (okS sk_told), eqv_self rfl]
theorem eq_refused : dEqX (.str "refused") (.str "told") = some (.bl false) := by
  rw [dEqX_ok (.inl rfl) (okS sk_refused) (okS sk_told)]
  have : (toPy (.str "refused")).eqv (toPy (.str "told")) = false := by
    rw [toPy, toPy, PyData.eqv]
    decide +kernel
  rw [this]
noncomputable def lwP (c : Cf) : SDn := (sSeq (sAsg 17 (eCall (G_law_due c) (lCons (eVar 3) (lCons (eVar 7) (lCons (eVar 6) (lCons (eVar 5) (lCons (eVar 4) lNil)))))))
    (sSeq (sAsgX 18 (toldX (G_odds c)) (lCons (eVar 11) (lCons (eVar 5) (lCons (eVar 4) lNil))))
    (sSeq (sIf (bOr (bOf (ePeek 18 (eBin dNeU (eVar 18) (eVar 17)))) (bAnd (bOf (eBin dEqX (eBin dIx (eVar 17) (eC (.int 0))) (eC (.str "told")))) (bNot (bOf (ePeek 18 (eFn (dIsi c) (lCons (eBin dIx (eVar 18) (eC (.int 1))) (lCons (eC (.ty "dict")) lNil))))))))
    (sRet (eC (.bl false)))
    sNext)
    (sIf (bOf (eBin dEqX (eBin dIx (eVar 17) (eC (.int 0))) (eC (.str "told"))))
    (sSeq (sClr 18)
    (sIf (bOf (eBin dNeU (eCallO (toldX (G_odds c)) (lCons (eVar 11) (lCons (eVar 5) (lCons (eVar 4) lNil)))) (eVar 17)))
    (sRet (eC (.bl false)))
    sNext))
    sNext))))
theorem ev_lwP {c : Cf} {hs : HS} {S : List Int} {F : List (List Int)} {w : KY → Int} (h : LwOk S F w) {x : D} {y : PatD} (hx : askD x = true) (hy : y.okP) (hsh : y.short) {s0 s1 s2 y4 s8 s9 s10 s12 s13 s14 s15 s16 y17 y18 y19 : Sl} :
    ∃ z17 z18, stepD (gd1 4) (lwP c) y.d [s0, s1, s2, .dat (tupI S), y4, .dat x, .dat (keysW S F w), .dat (fD F), s8, s9, s10, .dat (whD S (prodK S F) w (tot S F w)), s12, s13, s14, s15, s16, y17, y18, y19] hs = some (.nx [s0, s1, s2, .dat (tupI S), .dat y.d, .dat x, .dat (keysW S F w), .dat (fD F), s8, s9, s10, .dat (whD S (prodK S F) w (tot S F w)), s12, s13, s14, s15, s16, z17, z18, y19], hs) := by
  have ed := ev_due (c := c) (hs := hs) h hx hy hsh
  have et := ev_told (c := c) (hs := hs) h.wh hx hy
  rw [stepD1]
  simp only [List.set_cons_succ, List.set_cons_zero]
  unfold lwP
  rw [seq_nx (asg (d := dueD S (prodK S F) w x y true) (hs' := hs) (by simp [ed]))]
  simp only [List.set_cons_succ, List.set_cons_zero]
  rcases dueD_cases S (prodK S F) w x y with ⟨d, e1, e2, e3, e4, e5⟩ | ⟨kvs, e1, e2, e3⟩
  · rw [e1] at et
    rw [e2 true]
    refine ⟨.dat d, .dat d, ?_⟩
    rw [seq_nx (Γ' := [s0, s1, s2, .dat (tupI S), .dat y.d, .dat x, .dat (keysW S F w), .dat (fD F), s8, s9, s10, .dat (whD S (prodK S F) w (tot S F w)), s12, s13, s14, s15, s16, .dat d, .dat d, y19]) (hs' := hs) (by simp [sAsgX, et])]
    have pk : ePeek 18 (eBin dNeU (eVar 18) (eVar 17)) [s0, s1, s2, .dat (tupI S), .dat y.d, .dat x, .dat (keysW S F w), .dat (fD F), s8, s9, s10, .dat (whD S (prodK S F) w (tot S F w)), s12, s13, s14, s15, s16, .dat d, .dat d, y19] hs = some (.bl false, hs) := by
      simp [ePeek, frzE, e3, scalarD]
    rw [seq_nx (Γ' := [s0, s1, s2, .dat (tupI S), .dat y.d, .dat x, .dat (keysW S F w), .dat (fD F), s8, s9, s10, .dat (whD S (prodK S F) w (tot S F w)), s12, s13, s14, s15, s16, .dat d, .dat d, y19]) (hs' := hs) (by simp [pk, e4, eq_refused])]
    simp [e4, eq_refused]
  · rw [e1] at et
    rw [e2 true]
    refine ⟨.dat (.tup [.str "told", .dic true kvs]), .own (.tup [.str "told", .dic false []]), ?_⟩
    rw [seq_nx (Γ' := [s0, s1, s2, .dat (tupI S), .dat y.d, .dat x, .dat (keysW S F w), .dat (fD F), s8, s9, s10, .dat (whD S (prodK S F) w (tot S F w)), s12, s13, s14, s15, s16, .dat (.tup [.str "told", .dic true kvs]), .own (.tup [.str "told", .dic false kvs]), y19]) (hs' := hs) (by simp [sAsgX, et])]
    have pk : ePeek 18 (eBin dNeU (eVar 18) (eVar 17)) [s0, s1, s2, .dat (tupI S), .dat y.d, .dat x, .dat (keysW S F w), .dat (fD F), s8, s9, s10, .dat (whD S (prodK S F) w (tot S F w)), s12, s13, s14, s15, s16, .dat (.tup [.str "told", .dic true kvs]), .own (.tup [.str "told", .dic false kvs]), y19] hs = some (.bl false, hs) := by
      simp [ePeek, frzE, frzD, e3, scalarD]
    have i0 : dIx (.tup [.str "told", .dic true kvs]) (.int 0) = some (.str "told") := rfl
    have i1 : dIx (.tup [.str "told", .dic false kvs]) (.int 1) = some (.dic false kvs) := rfl
    have di : dIsi c [.dic false kvs, .ty "dict"] = some (.bl true) := by simp [dIsi, tyN, isiTy]
    have pk2 : ePeek 18 (eFn (dIsi c) (lCons (eBin dIx (eVar 18) (eC (.int 1))) (lCons (eC (.ty "dict")) lNil))) [s0, s1, s2, .dat (tupI S), .dat y.d, .dat x, .dat (keysW S F w), .dat (fD F), s8, s9, s10, .dat (whD S (prodK S F) w (tot S F w)), s12, s13, s14, s15, s16, .dat (.tup [.str "told", .dic true kvs]), .own (.tup [.str "told", .dic false kvs]), y19] hs = some (.bl true, hs) := by
      simp [ePeek, frzE, frzD, i1, di, scalarD]
    rw [seq_nx (Γ' := [s0, s1, s2, .dat (tupI S), .dat y.d, .dat x, .dat (keysW S F w), .dat (fD F), s8, s9, s10, .dat (whD S (prodK S F) w (tot S F w)), s12, s13, s14, s15, s16, .dat (.tup [.str "told", .dic true kvs]), .own (.tup [.str "told", .dic false kvs]), y19]) (hs' := hs) (by simp [pk, pk2, i0, eq_told])]
    simp [i0, eq_told, sClr, eCallO, et, frzD, e3]
end Dl
/-! one turn of the law. -/
namespace Dl
open PySem PySem.Spec PyProof.Rows L2
/-- family, sizes: what the weights are made over -/
structure FsOk (S : List Int) (F : List (List Int)) : Prop where
  sz : SzW S
  up : F.Pairwise (· < ·)
  mem : ∀ p ∈ F, p ∈ pats S.length
  ne : F ≠ []
theorem FsOk.ofSub {S : List Int} {F : List (List Int)} (h : SzW S) (s : F.Sublist (pats S.length)) (ne : F ≠ []) : FsOk S F := ⟨h, (pats_up h.sz.len).sublist s, fun p hp => s.subset hp, ne⟩
section
variable {S : List Int} {F : List (List Int)}
theorem FsOk.n4 (h : FsOk S F) : S.length ≤ 4 := h.sz.sz.len
theorem FsOk.few (h : FsOk S F) : F.length ≤ 16 := Nat.le_trans ((nodup_of_lt h.up).length_le_of_subset h.mem) (pats_len h.n4)
theorem FsOk.pl' (h : FsOk S F) : ∀ p ∈ F, p.length ≤ S.length := fun p hp => rawP_pl _ p (pats_mem.mp (h.mem p hp))
theorem FsOk.pl (h : FsOk S F) : ∀ p ∈ F, p.length ≤ 4 := fun p hp => Nat.le_trans (h.pl' p hp) h.n4
theorem FsOk.lw (h : FsOk S F) {w : KY → Int} {b : Nat} (hb : b ≤ 500) (hw : Bd (prodK S F) w b) : LwOk S F w :=
  ⟨h.sz, h.up, h.ne, h.few, fun p hp => rawP_lot h.n4 p (pats_mem.mp (h.mem p hp)), h.pl, hw.mono hb⟩
theorem TB.bd (h : FsOk S F) {tk bk : List (D × D)} (t : TB S F tk bk) : Bd (prodK S F) (wv tk bk F) 321 := fun k hk => by
  have := t.wv_bd (mem_prodK.mp hk).1 F [] (by simp)
  refine ⟨this.1, Int.lt_of_lt_of_le this.2 (pow_le ?_)⟩
  have := h.few
  omega
theorem FsOk.pne (h : FsOk S F) : prodK S F ≠ [] := by
  intro e
  cases hc : conts S with
  | nil => exact conts_pos h.sz.sz hc
  | cons a l =>
    cases hf : F with
    | nil => exact h.ne hf
    | cons p r =>
      have : (a, p) ∈ prodK S F := mem_prodK.mpr ⟨by rw [hc]; simp, by rw [hf]; simp⟩
      rw [e] at this; cases this
theorem FsOk.card (h : FsOk S F) : (prodK S F).length ≤ 4096 := by
  rw [prodK_len]
  calc (conts S).length * F.length ≤ 256 * 16 := Nat.mul_le_mul h.sz.sz.card h.few
    _ = 4096 := rfl
end
def oddC (n : Nat) (wh : D) : List D := [.int (-1), .int n, .bl true, .bl false, .non, .str "0", .tup [.int 0], .lst [.int 0], .dic false [], .int (10 ^ 50), wh, .tup [.tup [.int 0], .tup []]]
def oddP (n : Nat) (wh : D) : List PatD := [.other .non, .other (.int 0), .other (.lst []), .other (.lst (rngI 0 n)), .nums [0, 0], .nums [(n : Int)], .nums [-1], .bl1 false, .bl1 true, .str1 "0", .tup0, .other (.str ""), .other (.dic false []), .other wh]
theorem oddC_ask {n : Nat} {wh : D} (h : askD wh = true) : ∀ x ∈ oddC n wh, askD x = true := by
  intro x hx
  simp only [oddC, List.mem_cons, List.not_mem_nil, or_false] at hx
  rcases hx with rfl | rfl | rfl | rfl | rfl | rfl | rfl | rfl | rfl | rfl | rfl | rfl <;> first | rfl | exact h
theorem ok_rng (n : Nat) : ok (.lst (rngI 0 n)) = true := by
  have e : rngI 0 (n : Int) = ((List.range n).map fun (i : Nat) => (i : Int)).map D.int := by rw [rng0, List.map_map]; rfl
  rw [e]
  refine ok_of ?_ ?_ ?_
  · rw [pOk, pOks_ints]
  · rw [toPy, PyData.canLay0, canLay_ints]
  · rw [toPy, PyData.depth, depth_ints]; omega
theorem sk_0 : PyData.strOk "0" = true := by decide +kernel
theorem sk_e : PyData.strOk "" = true := by decide +kernel
theorem oddP_ok {n : Nat} {a b : D} : ∀ y ∈ oddP n (.obj a b), y.okP ∧ y.short := by
  have o1 : ok .non = true := by simp [ok, pOk, toPy, SeqAt.shaped, PyData.canLay0, PyData.depth]
  have o2 : ok (.lst []) = true := by simp [ok, pOk, pOks, toPy, toPys, SeqAt.shaped, PyData.canLay0, PyData.canLayAll0, PyData.depth, PyData.depthAll]
  have o3 := ok_rng n
  have o4 := okS sk_e
  have o5 := okS sk_0
  intro y hy
  simp only [oddP, List.mem_cons, List.not_mem_nil, or_false] at hy
  rcases hy with rfl | rfl | rfl | rfl | rfl | rfl | rfl | rfl | rfl | rfl | rfl | rfl | rfl | rfl
  · exact ⟨⟨rfl, rfl, .inl o1⟩, trivial⟩
  · exact ⟨⟨rfl, rfl, .inl (ok_int 0)⟩, trivial⟩
  · exact ⟨⟨rfl, rfl, .inl o2⟩, trivial⟩
  · exact ⟨⟨rfl, rfl, .inl o3⟩, trivial⟩
  · exact ⟨trivial, by show (2 : Nat) ≤ 100; omega⟩
  · exact ⟨trivial, by show (1 : Nat) ≤ 100; omega⟩
  · exact ⟨trivial, by show (1 : Nat) ≤ 100; omega⟩
  · exact ⟨trivial, trivial⟩
  · exact ⟨trivial, trivial⟩
  · exact ⟨o5, trivial⟩
  · exact ⟨trivial, trivial⟩
  · exact ⟨⟨rfl, rfl, .inl o4⟩, trivial⟩
  · exact ⟨⟨rfl, rfl, .inr (.inl ⟨_, _, rfl⟩)⟩, trivial⟩
  · exact ⟨⟨rfl, rfl, .inr (.inr ⟨_, _, rfl⟩)⟩, trivial⟩
@[simp] theorem x_new {G : Fn} {f1 f2 : EDn} {Γ : Env} {hs : HS} : eNeW G f1 f2 Γ hs = (f1 Γ hs).bind fun r1 => (f2 Γ r1.2).bind fun r2 => neW G r1.1 r2.1 r2.2 := rfl
/-- the part of a turn that asks -/
noncomputable def lwC (c : Cf) : SDn := (sSeq (sFor (lItemsL (eVar 15)) (gd1 5)
    (sFor (lItemsL (eVar 16)) (gd1 4) (lwP c)))
    (sIf (bOf (eNeW (G_eq c) (eVar 11) (eMk c (lCons (eVar 3) (lCons (eVar 12) lNil)))))
    (sRet (eC (.bl false)))
    sNext))
theorem ev_lwC {c : Cf} {hs : HS} {S : List Int} {F : List (List Int)} {w : KY → Int} (h : LwOk S F w) {xs : List D} {ys : List PatD} (hx : ∀ x ∈ xs, askD x = true) (hy : ∀ y ∈ ys, y.okP ∧ y.short) {s0 s1 s2 y4 y5 s8 s9 s10 s13 s14 y17 y18 y19 : Sl} :
    ∃ z4 z5 z17 z18, lwC c [s0, s1, s2, .dat (tupI S), y4, y5, .dat (keysW S F w), .dat (fD F), s8, s9, s10, .dat (whD S (prodK S F) w (tot S F w)), .dat (.ptup ((prodK S F).map (rowD w (tot S F w)))), s13, s14, .dat (.lst xs), .dat (.lst (ys.map PatD.d)), y17, y18, y19] hs = some (.nx [s0, s1, s2, .dat (tupI S), z4, z5, .dat (keysW S F w), .dat (fD F), s8, s9, s10, .dat (whD S (prodK S F) w (tot S F w)), .dat (.ptup ((prodK S F).map (rowD w (tot S F w)))), s13, s14, .dat (.lst xs), .dat (.lst (ys.map PatD.d)), z17, z18, y19], hs) := by
  have loop := for_inv (step := stepD (gd1 5) (sFor (lItemsL (eVar 16)) (gd1 4) (lwP c))) id (fun pre Γ h => h = hs ∧ ∃ y4 y5 y17 y18, Γ = [s0, s1, s2, .dat (tupI S), y4, y5, .dat (keysW S F w), .dat (fD F), s8, s9, s10, .dat (whD S (prodK S F) w (tot S F w)), .dat (.ptup ((prodK S F).map (rowD w (tot S F w)))), s13, s14, .dat (.lst xs), .dat (.lst (ys.map PatD.d)), y17, y18, y19]) xs (Γ := [s0, s1, s2, .dat (tupI S), y4, y5, .dat (keysW S F w), .dat (fD F), s8, s9, s10, .dat (whD S (prodK S F) w (tot S F w)), .dat (.ptup ((prodK S F).map (rowD w (tot S F w)))), s13, s14, .dat (.lst xs), .dat (.lst (ys.map PatD.d)), y17, y18, y19]) (hs := hs) ⟨rfl, _, _, _, _, rfl⟩ (by
    rintro pre x post Γ hs1 hxs ⟨rfl, i4, i5, i17, i18, rfl⟩
    have hax := hx x (by rw [hxs]; simp)
    have inner := for_inv (step := stepD (gd1 4) (lwP c)) PatD.d (fun pre Γ h => h = hs1 ∧ ∃ y4 y17 y18, Γ = [s0, s1, s2, .dat (tupI S), y4, .dat x, .dat (keysW S F w), .dat (fD F), s8, s9, s10, .dat (whD S (prodK S F) w (tot S F w)), .dat (.ptup ((prodK S F).map (rowD w (tot S F w)))), s13, s14, .dat (.lst xs), .dat (.lst (ys.map PatD.d)), y17, y18, y19]) ys (Γ := [s0, s1, s2, .dat (tupI S), i4, .dat x, .dat (keysW S F w), .dat (fD F), s8, s9, s10, .dat (whD S (prodK S F) w (tot S F w)), .dat (.ptup ((prodK S F).map (rowD w (tot S F w)))), s13, s14, .dat (.lst xs), .dat (.lst (ys.map PatD.d)), i17, i18, y19]) (hs := hs1) ⟨rfl, _, _, _, rfl⟩ (by
      rintro pre2 y post2 Γ hs2 hys ⟨rfl, j4, j17, j18, rfl⟩
      obtain ⟨hok, hsh⟩ := hy y (by rw [hys]; simp)
      obtain ⟨z17, z18, e⟩ := ev_lwP (c := c) (hs := hs2) h hax hok hsh (s0 := s0) (s1 := s1) (s2 := s2) (y4 := j4) (s8 := s8) (s9 := s9) (s10 := s10) (s12 := .dat (.ptup ((prodK S F).map (rowD w (tot S F w))))) (s13 := s13) (s14 := s14) (s15 := .dat (.lst xs)) (s16 := .dat (.lst (ys.map PatD.d))) (y17 := j17) (y18 := j18) (y19 := y19)
      exact ⟨_, hs2, e, rfl, _, _, _, rfl⟩)
    obtain ⟨Γ', hs', e, rfl, z4, z17, z18, rfl⟩ := inner
    refine ⟨_, hs', ?_, rfl, z4, .dat x, z17, z18, rfl⟩
    rw [stepD1]
    simp only [List.set_cons_succ, List.set_cons_zero, id]
    rw [for_eq (items := ys.map PatD.d) (hs1 := hs') (items_eq (by simp))]
    exact e)
  obtain ⟨Γ', hs', e, rfl, z4, z5, z17, z18, rfl⟩ := loop
  rw [List.map_id] at e
  refine ⟨z4, z5, z17, z18, ?_⟩
  unfold lwC
  rw [seq_nx (Γ' := [s0, s1, s2, .dat (tupI S), z4, z5, .dat (keysW S F w), .dat (fD F), s8, s9, s10, .dat (whD S (prodK S F) w (tot S F w)), .dat (.ptup ((prodK S F).map (rowD w (tot S F w)))), s13, s14, .dat (.lst xs), .dat (.lst (ys.map PatD.d)), z17, z18, y19]) (hs' := hs') (by
    rw [for_eq (items := xs) (hs1 := hs') (items_eq (by simp))]
    exact e)]
  have mk := ev_mk h (c := c) (hs := hs') (l := lCons (eVar 3) (lCons (eVar 12) lNil)) (Γ := [s0, s1, s2, .dat (tupI S), z4, z5, .dat (keysW S F w), .dat (fD F), s8, s9, s10, .dat (whD S (prodK S F) w (tot S F w)), .dat (.ptup ((prodK S F).map (rowD w (tot S F w)))), s13, s14, .dat (.lst xs), .dat (.lst (ys.map PatD.d)), z17, z18, y19]) (by simp)
  have nw := ev_neW (c := c) (hs := hs') (S := S) (w := w) (T := tot S F w) (ks := prodK S F)
  simp only [x_if, x_bof, x_new, x_var, List.getElem?_cons_succ, List.getElem?_cons_zero, Option.bind_some, mk, nw, Bool.false_eq_true, if_false, x_next]
end Dl
/-! one turn of the law, the whole. -/
namespace Dl
open PySem PySem.Spec PyProof.Rows L2
/-- what is asked about -/
noncomputable def lwB (c : Cf) : SDn := (sSeq (sAsg 12 (eCall (G_law_rows c) (lCons (eVar 6) (lCons (eFn dSum (lCons (eComp (lItemsK (eVar 6)) [19] (gd1 19) bYes (eBin dIxN (eVar 6) (eVar 19))) lNil)) lNil))))
    (sSeq (sAsg 11 (eMk c (lCons (eVar 3) (lCons (eVar 12) lNil))))
    (sSeq (sAsg 13 (eLst (lCons (eUn dNeg (eC (.int 1))) (lCons (eVar 2) (lCons (eC (.bl true)) (lCons (eC (.bl false)) (lCons (eC .non) (lCons (eC (.str "0")) (lCons (eTup (lCons (eC (.int 0)) lNil)) (lCons (eLst (lCons (eC (.int 0)) lNil)) (lCons (eC (.dic false [])) (lCons (eBin dPow (eC (.int 10)) (eC (.int 50))) (lCons (eVar 11) (lCons (eTup (lCons (eTup (lCons (eC (.int 0)) lNil)) (lCons (eTup lNil) lNil))) lNil))))))))))))))
    (sSeq (sAsg 14 (eLst (lCons (eC .non) (lCons (eC (.int 0)) (lCons (eLst lNil) (lCons (eLstRg (eVar 2)) (lCons (eTup (lCons (eC (.int 0)) (lCons (eC (.int 0)) lNil))) (lCons (eTup (lCons (eVar 2) lNil)) (lCons (eTup (lCons (eUn dNeg (eC (.int 1))) lNil)) (lCons (eTup (lCons (eC (.bl false)) lNil)) (lCons (eTup (lCons (eC (.bl true)) lNil)) (lCons (eTup (lCons (eC (.str "0")) lNil)) (lCons (eTup (lCons (eTup lNil) lNil)) (lCons (eC (.str "")) (lCons (eC (.dic false [])) (lCons (eVar 11) lNil))))))))))))))))
    (sSeq (sAsg 15 (eBin dAdd (eLstRg (eVar 2)) (eLst (lCons (eCall (G_law_any c) (lCons (eVar 1) (lCons (eVar 13) lNil))) lNil))))
    (sSeq (sAsg 16 (eBin dAdd (eCall (G_law_patterns c) (lCons (eVar 2) lNil)) (eLst (lCons (eCall (G_law_any c) (lCons (eVar 1) (lCons (eVar 14) lNil))) (lCons (eTup (lCons (eC (.int 1)) (lCons (eC (.int 0)) lNil))) lNil)))))
    (lwC c)))))))
noncomputable def lwA (c : Cf) : SDn := (sSeq (sAsg 3 (eCall (G_law_sizes c) (lCons (eVar 1) lNil)))
    (sSeq (sPar 2 7 (eFn dLen (lCons (eVar 3) lNil)) (eCall (G_law_any_family c) (lCons (eVar 1) (lCons (eFn dLen (lCons (eVar 3) lNil)) lNil))))
    (sSeq (sAsgG (eCall (G_law_tops c) (lCons (eVar 1) (lCons (eVar 3) (lCons (eVar 7) lNil)))) (gd2 8 9))
    (sSeq (sAsg 6 (eCall (G_law_woven c) (lCons (eVar 3) (lCons (eVar 7) (lCons (eVar 8) (lCons (eVar 9) lNil))))))
    (sSeq (sAsg 6 (eIf (bOf (eBin dEqX (eCall (G_law_draw c) (lCons (eVar 1) (lCons (eC (.int 4)) lNil))) (eC (.int 0)))) (eCall (G_law_bent c) (lCons (eVar 1) (lCons (eVar 6) lNil))) (eVar 6)))
    (lwB c))))))
theorem law_eq (c : Cf) : dn_law c = sSeq (sIf (bOf (eBin dEqX (eCall (G_law_draw c) (lCons (eVar 1) (lCons (eC (.int 8)) lNil))) (eC (.int 5))))
    (sRet (eCall (G_law_is_great_right c) (lCons (eVar 1) lNil)))
    sNext)
    (sSeq (sFor (lRng1 (eC (.int 2))) (gd1 10) (lwA c)) (sRet (eC (.bl true)))) := rfl
abbrev lwI (ad : Addr) (Γ : Env) : Prop := ∃ y0 y2 y3 y4 y5 y6 y7 y8 y9 y10 y11 y12 y13 y14 y15 y16 y17 y18, Γ = [y0, .dat (.hand ad), y2, y3, y4, y5, y6, y7, y8, y9, y10, y11, y12, y13, y14, y15, y16, y17, y18, .dead]
theorem ev_lwB {c : Cf} {k : Nat} {hs : HS} {ad : Addr} {S : List Int} {F : List (List Int)} {w : KY → Int} (h : LwOk S F w) (hh : HI k hs) (hk : k ≤ 900000) (ha : hs.ad = ad) {y0 y4 y5 y8 y9 y10 y11 y12 y13 y14 y15 y16 y17 y18 : Sl} :
    ∃ Γ' hs', lwB c [y0, .dat (.hand ad), .dat (.int S.length), .dat (tupI S), y4, y5, .dat (keysW S F w), .dat (fD F), y8, y9, y10, y11, y12, y13, y14, y15, y16, y17, y18, .dead] hs = some (.nx Γ', hs') ∧ HI (k + 2) hs' ∧ hs'.ad = ad ∧ lwI ad Γ' := by
  have hn4 : S.length ≤ 4 := h.sz.sz.len
  have sm := ev_sum h (c := c) (hs := hs) (Γ := [y0, .dat (.hand ad), .dat (.int S.length), .dat (tupI S), y4, y5, .dat (keysW S F w), .dat (fD F), y8, y9, y10, y11, y12, y13, y14, y15, y16, y17, y18, .dead]) (i := 6) (j := 19) rfl rfl (by omega)
  have rw1 := ev_law_rows h (c := c) (hs := hs)
  unfold lwB
  rw [seq_nx (asg (d := .ptup ((prodK S F).map (rowD w (tot S F w)))) (hs' := hs) (by
    simp only [x_call, x_cons, x_nil, x_var, List.getElem?_cons_succ, List.getElem?_cons_zero, Option.bind_some, Option.map_some, sm, rw1]))]
  simp only [List.set_cons_succ, List.set_cons_zero]
  have mk := ev_mk h (c := c) (hs := hs) (l := lCons (eVar 3) (lCons (eVar 12) lNil)) (Γ := [y0, .dat (.hand ad), .dat (.int S.length), .dat (tupI S), y4, y5, .dat (keysW S F w), .dat (fD F), y8, y9, y10, y11, .dat (.ptup ((prodK S F).map (rowD w (tot S F w)))), y13, y14, y15, y16, y17, y18, .dead]) (by simp)
  rw [seq_nx (asg mk)]
  simp only [List.set_cons_succ, List.set_cons_zero]
  have p50 : dPow (.int 10) (.int 50) = some (.int (10 ^ 50)) := by
    unfold dPow
    simp
  rw [seq_nx (asg (d := .lst (oddC S.length (whD S (prodK S F) w (tot S F w)))) (hs' := hs) (by simp [dNeg, p50, oddC]))]
  simp only [List.set_cons_succ, List.set_cons_zero]
  have n0 : -1000 ≤ (S.length : Int) := by omega
  have n1 : (S.length : Int) ≤ 1000 := by omega
  rw [seq_nx (asg (d := .lst ((oddP S.length (whD S (prodK S F) w (tot S F w))).map PatD.d)) (hs' := hs) (by simp [dNeg, eLstRg, n0, n1, oddP, PatD.d, tupI]))]
  simp only [List.set_cons_succ, List.set_cons_zero]
  obtain ⟨x, hs1, e1, hx, h1, ad1⟩ := ev_any (c := c) (xs := oddC S.length (whD S (prodK S F) w (tot S F w))) hh (by omega) (by simp [oddC]) (by simp [oddC])
  rw [ha] at e1 ad1
  have ad2 : dAdd (.lst (rngI 0 S.length)) (.lst [x]) = some (.lst (rngI 0 S.length ++ [x])) := by
    unfold dAdd
    simp only
    rw [if_pos (by rw [rng0]; simp; omega)]
  rw [seq_nx (asg (d := .lst (rngI 0 S.length ++ [x])) (hs' := hs1) (by simp [eLstRg, n0, n1, e1, ad2]))]
  simp only [List.set_cons_succ, List.set_cons_zero]
  obtain ⟨yd, hs2, e2, hy, h2, ad3⟩ := ev_any (c := c) (xs := (oddP S.length (whD S (prodK S F) w (tot S F w))).map PatD.d) h1 (by omega) (by simp [oddP]) (by simp [oddP])
  rw [ad1] at e2 ad3
  obtain ⟨y, hym, rfl⟩ := List.mem_map.mp hy
  have ep := ev_patterns (c := c) (hs := hs1) hn4
  have hpl := pats_len hn4
  have ad4 : dAdd (.lst ((pats S.length).map tupI)) (.lst [y.d, .tup [.int 1, .int 0]]) = some (.lst (((pats S.length).map PatD.nums ++ [y, .nums [1, 0]]).map PatD.d)) := by
    unfold dAdd
    simp only [List.length_map]
    rw [if_pos (by simp; omega), List.map_append, List.map_map]
    rfl
  rw [seq_nx (asg (d := .lst (((pats S.length).map PatD.nums ++ [y, .nums [1, 0]]).map PatD.d)) (hs' := hs2) (by simp [ep, e2, ad4]))]
  simp only [List.set_cons_succ, List.set_cons_zero]
  obtain ⟨z4, z5, z17, z18, e5⟩ := ev_lwC (c := c) (hs := hs2) h (xs := rngI 0 S.length ++ [x]) (ys := (pats S.length).map PatD.nums ++ [y, .nums [1, 0]]) (fun z hz => by
    rcases List.mem_append.mp hz with hz | hz
    · rw [rng0] at hz
      obtain ⟨i, _, rfl⟩ := List.mem_map.mp hz
      rfl
    · rw [List.mem_singleton.mp hz]
      exact oddC_ask rfl x hx) (fun z hz => by
    rcases List.mem_append.mp hz with hz | hz
    · obtain ⟨p, hp, rfl⟩ := List.mem_map.mp hz
      have := rawP_pl _ p (pats_mem.mp hp)
      exact ⟨trivial, by show p.length ≤ 100; omega⟩
    · simp only [List.mem_cons, List.not_mem_nil, or_false] at hz
      rcases hz with rfl | rfl
      · exact oddP_ok _ hym
      · exact ⟨trivial, by show (2 : Nat) ≤ 100; omega⟩) (s0 := y0) (s1 := .dat (.hand ad)) (s2 := .dat (.int S.length)) (y4 := y4) (y5 := y5) (s8 := y8) (s9 := y9) (s10 := y10) (s13 := .dat (.lst (oddC S.length (whD S (prodK S F) w (tot S F w))))) (s14 := .dat (.lst ((oddP S.length (whD S (prodK S F) w (tot S F w))).map PatD.d))) (y17 := y17) (y18 := y18) (y19 := .dead)
  exact ⟨_, hs2, e5, h2, ad3, _, _, _, _, _, _, _, _, _, _, _, _, _, _, _, _, _, _, rfl⟩
theorem ev_lwA {c : Cf} {k : Nat} {hs : HS} {ad : Addr} (h : HI k hs) (hk : k ≤ 500000) (ha : hs.ad = ad) (Γ : Env) (hΓ : lwI ad Γ) : ∃ Γ' hs', lwA c Γ hs = some (.nx Γ', hs') ∧ HI (k + 12000) hs' ∧ hs'.ad = ad ∧ lwI ad Γ' := by
  obtain ⟨y0, y2, y3, y4, y5, y6, y7, y8, y9, y10, y11, y12, y13, y14, y15, y16, y17, y18, rfl⟩ := hΓ
  obtain ⟨S, hs1, e1, hS, h1, ad1⟩ := ev_law_sizes (c := c) h (by omega)
  rw [ha] at e1 ad1
  obtain ⟨sz, s3, s1⟩ := sz_ok S hS
  obtain ⟨F, hs2, e2, sub, ne, h2, ad2⟩ := ev_any_family (c := c) (n := S.length) h1 (by omega) (by omega)
  rw [ad1] at e2 ad2
  have fs : FsOk S F := FsOk.ofSub sz sub ne
  obtain ⟨tk, bk, hs3, e3, tb, h3, ad3⟩ := ev_tops (c := c) (S := S) (F := F) sz.sz fs.few h2 (by omega)
  rw [ad2] at e3 ad3
  have ew := ev_woven (c := c) (hs := hs3) tb sz.sz fs.few fs.up fs.pl
  have ll : dLen [tupI S] = some (.int S.length) := by simp [tupI, dLen]
  unfold lwA
  rw [seq_nx (asg (d := tupI S) (hs' := hs1) (by simp [e1]))]
  simp only [List.set_cons_succ, List.set_cons_zero]
  rw [seq_nx (Γ' := [y0, .dat (.hand ad), .dat (.int S.length), .dat (tupI S), y4, y5, y6, .dat (fD F), y8, y9, y10, y11, y12, y13, y14, y15, y16, y17, y18, .dead]) (hs' := hs2) (by simp [ll, e2])]
  rw [seq_nx (Γ' := [y0, .dat (.hand ad), .dat (.int S.length), .dat (tupI S), y4, y5, y6, .dat (fD F), .dat (.dic true tk), .dat (.dic true bk), y10, y11, y12, y13, y14, y15, y16, y17, y18, .dead]) (hs' := hs3) (by simp [sAsgG, e3, gd2])]
  rw [seq_nx (asg (d := keysW S F (wv tk bk F)) (hs' := hs3) (by simp [ew]))]
  simp only [List.set_cons_succ, List.set_cons_zero]
  obtain ⟨r, hs4, e4, r0, r1, h4, ad4⟩ := ev_draw (c := c) (many := 4) h3 (by omega) (by omega) (by omega)
  rw [ad3] at e4 ad4
  have bd := TB.bd fs tb
  have step : ∃ w hs5, eIf (bOf (eBin dEqX (eCall (G_law_draw c) (lCons (eVar 1) (lCons (eC (.int 4)) lNil))) (eC (.int 0)))) (eCall (G_law_bent c) (lCons (eVar 1) (lCons (eVar 6) lNil))) (eVar 6) [y0, .dat (.hand ad), .dat (.int S.length), .dat (tupI S), y4, y5, .dat (keysW S F (wv tk bk F)), .dat (fD F), .dat (.dic true tk), .dat (.dic true bk), y10, y11, y12, y13, y14, y15, y16, y17, y18, .dead] hs3 = some (keysW S F w, hs5) ∧ Bd (prodK S F) w 325 ∧ HI (k + 11900) hs5 ∧ hs5.ad = ad := by
    by_cases hz : r = 0
    · obtain ⟨w, hs5, e5, b5, h5, ad5⟩ := ev_bent (c := c) (prodK_klt (S := S) fs.up) fs.pne fs.card (by omega) (by omega) bd h4 (by omega)
      rw [ad4] at e5 ad5
      have e5' : G_law_bent c [.hand ad, keysW S F (wv tk bk F)] hs4 = some (keysW S F w, hs5) := e5
      exact ⟨w, hs5, by simp [e4, dEqX_int, hz, e5'], b5, h5.mono (by omega), ad5⟩
    · exact ⟨wv tk bk F, hs4, by simp [e4, dEqX_int, hz], bd.mono (by omega), h4.mono (by omega), ad4⟩
  obtain ⟨w, hs5, e5, b5, h5, ad5⟩ := step
  rw [seq_nx (asg e5)]
  simp only [List.set_cons_succ, List.set_cons_zero]
  have lw := fs.lw (by omega) b5
  obtain ⟨Γ', hs6, e6, h6, ad6, hI⟩ := ev_lwB (c := c) lw h5 (by omega) ad5 (y0 := y0) (y4 := y4) (y5 := y5) (y8 := .dat (.dic true tk)) (y9 := .dat (.dic true bk)) (y10 := y10) (y11 := y11) (y12 := y12) (y13 := y13) (y14 := y14) (y15 := y15) (y16 := y16) (y17 := y17) (y18 := y18)
  exact ⟨Γ', hs6, e6, h6.mono (by omega), ad6, hI⟩
end Dl
/-! drawn pairs of patterns. -/
namespace Dl
open PySem PySem.Spec PyProof.Rows L2
def insB (k : Int) : List Int → List Int
  | [] => [k]
  | x :: xs => if k ≤ x then k :: x :: xs else x :: insB k xs
theorem insB_perm (k : Int) : ∀ p : List Int, (insB k p).Perm (p ++ [k])
  | [] => List.Perm.refl _
  | x :: p => by
    rw [insB]
    split
    · exact (List.perm_append_comm (l₁ := [k]) (l₂ := x :: p))
    · rw [List.cons_append]
      exact (insB_perm k p).cons x
theorem isort_le (l : List Int) : (isort l).Pairwise (· ≤ ·) := by
  have tr : ∀ a b d : Int, decide (a ≤ b) = true → decide (b ≤ d) = true → decide (a ≤ d) = true := fun a b d h1 h2 => decide_eq_true (Int.le_trans (of_decide_eq_true h1) (of_decide_eq_true h2))
  have to : ∀ a b : Int, (decide (a ≤ b) || decide (b ≤ a)) = true := fun a b => by
    have t : a ≤ b ∨ b ≤ a := Int.le_total a b
    rcases t with z | z <;> simp [z]
  exact (List.pairwise_mergeSort (le := fun a b : Int => decide (a ≤ b)) tr to l).imp fun h => of_decide_eq_true h
theorem more_ins {k : Int} {p : List Int} (h : (insB k p).Pairwise (· ≤ ·)) : more k p = insB k p := by
  unfold more
  refine List.Perm.eq_of_pairwise (le := fun a b : Int => a ≤ b) (fun a b _ _ h1 h2 => Int.le_antisymm h1 h2) (isort_le _) h ?_
  exact (List.mergeSort_perm _ _).trans (insB_perm k p).symm
theorem ins_raw {n : Nat} (h : n ≤ 4) : ∀ p ∈ rawP n, ∀ k ∈ List.range n, (k : Int) ∉ p → insB k p ∈ rawP n ∧ (insB k p).Pairwise (· ≤ ·) := by
  rcases (show n = 0 ∨ n = 1 ∨ n = 2 ∨ n = 3 ∨ n = 4 by omega) with rfl | rfl | rfl | rfl | rfl <;> decide +kernel
theorem more_pats {n : Nat} (h : n ≤ 4) {p : List Int} {k : Nat} (hp : p ∈ pats n) (hk : k < n) (hkp : (k : Int) ∉ p) : more k p ∈ pats n := by
  obtain ⟨h1, h2⟩ := ins_raw h p (pats_mem.mp hp) k (List.mem_range.mpr hk) hkp
  rw [more_ins h2]
  exact pats_mem.mpr h1
theorem nil_pats (n : Nat) : ([] : List Int) ∈ pats n := pats_mem.mpr (by
  induction n with
  | zero => simp [rawP]
  | succ n ih => rw [rawP]; exact List.mem_append_left _ ih)
theorem some_col {n : Nat} {p : List Int} (h : p.length < n) : ∃ k, k < n ∧ (k : Int) ∉ p := by
  refine Classical.byContradiction fun hc => ?_
  have all : ∀ k, k < n → (k : Int) ∈ p := fun k hk => Classical.byContradiction fun hn => hc ⟨k, hk, hn⟩
  have nd : ((List.range n).map fun (i : Nat) => (i : Int)).Nodup := by
    unfold List.Nodup
    rw [List.pairwise_map]
    exact List.pairwise_lt_range.imp fun {a b} h e => by omega
  have := nd.length_le_of_subset (l₂ := p) fun z hz => by
    obtain ⟨i, hi, rfl⟩ := List.mem_map.mp hz
    exact all i (List.mem_range.mp hi)
  simp at this
  omega
theorem sort_nd_up {l : List (List Int)} (h : l.Nodup) : (l.mergeSort (fun a b => decide (a ≤ b))).Pairwise (· < ·) := by
  have tr : ∀ a b d : List Int, decide (a ≤ b) = true → decide (b ≤ d) = true → decide (a ≤ d) = true := fun a b d h1 h2 => decide_eq_true (List.le_trans (of_decide_eq_true h1) (of_decide_eq_true h2))
  have to : ∀ a b : List Int, (decide (a ≤ b) || decide (b ≤ a)) = true := fun a b => by
    have t : a ≤ b ∨ b ≤ a := List.le_total a b
    rcases t with z | z <;> simp [z]
  have a := List.pairwise_mergeSort (le := fun a b : List Int => decide (a ≤ b)) tr to l
  have b : (l.mergeSort (fun a b => decide (a ≤ b))).Nodup := (List.mergeSort_perm _ _).nodup_iff.mpr h
  refine (a.and b).imp fun {x y} ⟨h1, h2⟩ => ?_
  have h3 : x ≤ y := of_decide_eq_true h1
  rcases (List.le_iff_lt_or_eq (l₁ := x) (l₂ := y)).mp h3 with z | z
  · exact z
  · exact absurd z h2
/-- some pair there is -/
def HasPair (S : List Int) (F : List (List Int)) : Prop := ∃ (k : Nat) (p : List Int), k < S.length ∧ p ∈ F ∧ (k : Int) ∉ p ∧ more k p ∈ F
noncomputable def spA (c : Cf) : SDn := (sSeq (sAsg 3 (eCall (G_law_any c) (lCons (eVar 0) (lCons (eComp (lItemsL (eVar 6)) [7] (gd1 7) (bOf (eBin dLtU (eFn dLen (lCons (eVar 7) lNil)) (eFn dLen (lCons (eVar 1) lNil)))) (eVar 7)) lNil))))
    (sSeq (sAsg 4 (eCall (G_law_any c) (lCons (eVar 0) (lCons (eComp (lRng1 (eFn dLen (lCons (eVar 1) lNil))) [7] (gd1 7) (bOf (eBin dNotIn (eVar 7) (eVar 3))) (eVar 7)) lNil))))
    (sExt 2 (eLst (lCons (eVar 3) (lCons (eFn dTuple (lCons (eFn dSorted (lCons (eBin dAdd (eVar 3) (eTup (lCons (eVar 4) lNil))) lNil)) lNil)) lNil))))))
theorem ev_spA {c : Cf} {k : Nat} {hs : HS} {ad : Addr} {S : List Int} (hS : SzW S) (h : HI k hs) (hk : k ≤ 900000) (ha : hs.ad = ad) {L : List (List Int)} (hL : L.length ≤ 1000) {y3 y4 y5 : Sl} {d5 : D} :
    ∃ (j : Nat) (p : List Int) (hs' : HS), stepD (gd1 5) (spA c) d5 [.dat (.hand ad), .dat (tupI S), .own (.lst (L.map tupI)), y3, y4, y5, .dat (.lst ((pats S.length).map tupI)), .dead] hs = some (.nx [.dat (.hand ad), .dat (tupI S), .own (.lst ((L ++ [p, more j p]).map tupI)), .dat (tupI p), .dat (.int j), .dat d5, .dat (.lst ((pats S.length).map tupI)), .dead], hs') ∧ HI (k + 2) hs' ∧ hs'.ad = ad ∧ j < S.length ∧ p ∈ pats S.length ∧ (j : Int) ∉ p := by
  have hn4 := hS.sz.len
  have hne := List.length_pos_iff.mpr hS.ne
  have hpl := pats_len hn4
  have ll : dLen [tupI S] = some (.int S.length) := by simp [tupI, dLen]
  have cm1 := comp_pure (gd := gd1 7) (cond := bOf (eBin dLtU (eFn dLen (lCons (eVar 7) lNil)) (eFn dLen (lCons (eVar 1) lNil)))) (elt := eVar 7) (Γ := [.dat (.hand ad), .dat (tupI S), .own (.lst (L.map tupI)), y3, y4, .dat d5, .dat (.lst ((pats S.length).map tupI)), .dead]) (hs := hs) tupI tupI (fun p => decide ((p.length : Int) < (S.length : Int))) id (pats S.length) (fun p hp => by
    have lp : dLen [tupI p] = some (.int p.length) := by simp [tupI, dLen]
    refine ⟨[.dat (.hand ad), .dat (tupI S), .own (.lst (L.map tupI)), y3, y4, .dat d5, .dat (.lst ((pats S.length).map tupI)), .dat (tupI p)], rfl, ?_, fun _ => by simp⟩
    simp [lp, ll, dLtU_int])
  rw [List.map_id] at cm1
  have cq1 := comp_eq (src := lItemsL (eVar 6)) (js := [7]) (hs := hs) (hs1 := hs) rfl (items_eq (by simp)) (by rw [List.length_map]; omega) cm1
  have fl1 := List.length_filter_le (fun p : List Int => decide ((p.length : Int) < (S.length : Int))) (pats S.length)
  obtain ⟨p, hs1, e1, hp, h1, ad1⟩ := any_tups (c := c) (zs := (pats S.length).filter fun p => decide ((p.length : Int) < (S.length : Int))) h (by omega) (fun e => by
    have : ([] : List Int) ∈ (pats S.length).filter fun p => decide ((p.length : Int) < (S.length : Int)) := List.mem_filter.mpr ⟨nil_pats _, by simp; omega⟩
    rw [e] at this; cases this) (by omega)
  rw [ha] at e1 ad1
  obtain ⟨hp1, hp2⟩ := List.mem_filter.mp hp
  have hp3 : p.length < S.length := by simpa using hp2
  have cm2 := comp_pure (gd := gd1 7) (cond := bOf (eBin dNotIn (eVar 7) (eVar 3))) (elt := eVar 7) (Γ := [.dat (.hand ad), .dat (tupI S), .own (.lst (L.map tupI)), .dat (tupI p), y4, .dat d5, .dat (.lst ((pats S.length).map tupI)), .dead]) (hs := hs1) (fun (i : Nat) => D.int (i : Int)) (fun (i : Nat) => D.int (i : Int)) (fun (i : Nat) => !decide ((i : Int) ∈ p)) id (List.range S.length) (fun i hi => by
    have n1 := notin_tup i p
    refine ⟨[.dat (.hand ad), .dat (tupI S), .own (.lst (L.map tupI)), .dat (tupI p), y4, .dat d5, .dat (.lst ((pats S.length).map tupI)), .dat (.int i)], rfl, ?_, fun _ => by simp⟩
    by_cases hm : (i : Int) ∈ p <;> simp [hm] at n1 <;> simp [n1, hm])
  rw [List.map_id] at cm2
  have cq2 := comp_eq (js := [7]) (hs := hs1) (hs1 := hs1) rfl (rng1_eq (f := eFn dLen (lCons (eVar 1) lNil)) (Γ := [.dat (.hand ad), .dat (tupI S), .own (.lst (L.map tupI)), .dat (tupI p), y4, .dat d5, .dat (.lst ((pats S.length).map tupI)), .dead]) (n := (S.length : Int)) (hs1 := hs1) (by simp [ll]) (by omega) (by omega)) (by simp; omega) (by simpa using cm2)
  have fl2 := List.length_filter_le (fun i : Nat => !decide ((i : Int) ∈ p)) (List.range S.length)
  rw [List.length_range] at fl2
  have anyN : ∃ (j : Nat) (hs2 : HS), G_law_any c [.hand ad, .lst (((List.range S.length).filter fun (i : Nat) => !decide ((i : Int) ∈ p)).map fun (i : Nat) => D.int (i : Int))] hs1 = some (.int j, hs2) ∧ j ∈ (List.range S.length).filter (fun (i : Nat) => !decide ((i : Int) ∈ p)) ∧ HI (k + 1 + 1) hs2 ∧ hs2.ad = ad := by
    obtain ⟨x, hs2, e2, hx, h2, ad2⟩ := ev_any (c := c) (xs := ((List.range S.length).filter fun (i : Nat) => !decide ((i : Int) ∈ p)).map fun (i : Nat) => D.int (i : Int)) h1 (by omega) (fun e => by
      obtain ⟨j, hj, hjp⟩ := some_col hp3
      have : j ∈ (List.range S.length).filter fun (i : Nat) => !decide ((i : Int) ∈ p) := List.mem_filter.mpr ⟨List.mem_range.mpr hj, by simp [hjp]⟩
      rw [List.map_eq_nil_iff.mp e] at this; cases this) (by rw [List.length_map]; omega)
    rw [ad1] at e2 ad2
    obtain ⟨j, hj, rfl⟩ := List.mem_map.mp hx
    exact ⟨j, hs2, e2, hj, h2, ad2⟩
  obtain ⟨j, hs2, e2, hj, h2, ad2⟩ := anyN
  obtain ⟨hj1, hj2⟩ := List.mem_filter.mp hj
  have hj3 : (j : Int) ∉ p := by simpa using hj2
  refine ⟨j, p, hs2, ?_, h2, ad2, List.mem_range.mp hj1, hp1, hj3⟩
  have t1 : D.tup [.int j] = tupI [(j : Int)] := rfl
  have a1 : dAdd (tupI p) (tupI [(j : Int)]) = some (tupI (p ++ [(j : Int)])) := dAdd_tupI _ _ (by simp; omega)
  have a2 : dSorted [tupI (p ++ [(j : Int)])] = some (.lst ((more j p).map D.int)) := ev_sorted_tup (by simp; omega)
  have a3 : dTuple [.lst ((more j p).map D.int)] = some (tupI (more j p)) := rfl
  rw [stepD1]
  simp only [List.set_cons_succ, List.set_cons_zero]
  unfold spA
  rw [seq_nx (asg (d := tupI p) (hs' := hs1) (by simp only [x_call, x_cons, x_nil, x_var, List.getElem?_cons_succ, List.getElem?_cons_zero, Option.bind_some, Option.map_some, cq1, e1]))]
  simp only [List.set_cons_succ, List.set_cons_zero]
  rw [seq_nx (asg (d := .int j) (hs' := hs2) (by simp only [x_call, x_cons, x_nil, x_var, List.getElem?_cons_succ, List.getElem?_cons_zero, Option.bind_some, Option.map_some, cq2, e2]))]
  simp only [List.set_cons_succ, List.set_cons_zero]
  rw [ext_eq (hs1 := hs2) (ds := L.map tupI) (es := [tupI p, tupI (more j p)]) (by simp [t1, a1, a2, a3]) rfl (by rw [List.length_map]; simp; omega)]
  simp
theorem ev_some_pairs {c : Cf} {k : Nat} {hs : HS} {S : List Int} (hS : SzW S) (h : HI k hs) (hk : k ≤ 800000) : ∃ F hs', G_law_some_pairs c [.hand hs.ad, tupI S] hs = some (fD F, hs') ∧ FsOk S F ∧ HasPair S F ∧ HI (k + 10) hs' ∧ hs'.ad = hs.ad := by
  have hn4 := hS.sz.len
  have hne := List.length_pos_iff.mpr hS.ne
  have hpl := pats_len hn4
  have ll : dLen [tupI S] = some (.int S.length) := by simp [tupI, dLen]
  have ep := ev_patterns (c := c) (hs := hs) hn4
  have s1 : ∀ b : SDn, sSeq (sParO 6 2 (eCall (G_law_patterns c) (lCons (eFn dLen (lCons (eVar 1) lNil)) lNil)) (.lst [])) b [.dat (.hand hs.ad), .dat (tupI S), .dead, .dead, .dead, .dead, .dead, .dead] hs = b [.dat (.hand hs.ad), .dat (tupI S), .own (.lst []), .dead, .dead, .dead, .dat (.lst ((pats S.length).map tupI)), .dead] hs := fun b => by
    rw [seq_nx (Γ' := [.dat (.hand hs.ad), .dat (tupI S), .own (.lst []), .dead, .dead, .dead, .dat (.lst ((pats S.length).map tupI)), .dead]) (hs' := hs) (by simp [sParO, ll, ep])]
  have q1 := eq_tupI S [2, 2, 2, 2]
  have q2 : D.tup [.int 2, .int 2, .int 2, .int 2] = tupI [2, 2, 2, 2] := rfl
  by_cases h2 : S = [2, 2, 2, 2]
  · refine ⟨pats S.length, hs, fn_ret rfl ?_, FsOk.ofSub hS (List.Sublist.refl _) (fun e => by
      have := nil_pats S.length
      rw [e] at this; cases this), ?_, h.mono (by omega), rfl⟩
    · unfold dn_law_some_pairs
      show sSeq _ _ [.dat (.hand hs.ad), .dat (tupI S), .dead, .dead, .dead, .dead, .dead, .dead] hs = _
      rw [s1]
      rw [decide_eq_true h2] at q1
      simp [q2, q1]
    · exact ⟨0, [], by omega, nil_pats _, by simp, more_pats hn4 (nil_pats _) (by omega) (by simp)⟩
  · rw [decide_eq_false h2] at q1
    obtain ⟨r, hs1, e1, r0, r1, h1, ad1⟩ := ev_draw (c := c) (many := 2) h (by omega) (by omega) (by omega)
    have loop := for_inv (step := stepD (gd1 5) (spA c)) (fun (i : Nat) => D.int (i : Int)) (fun pre Γ h => HI (k + 1 + 2 * pre.length) h ∧ h.ad = hs.ad ∧ ∃ (L : List (List Int)) (y3 y4 y5 : Sl), Γ = [.dat (.hand hs.ad), .dat (tupI S), .own (.lst (L.map tupI)), y3, y4, y5, .dat (.lst ((pats S.length).map tupI)), .dead] ∧ L.length ≤ 2 * pre.length ∧ (∀ p ∈ L, p ∈ pats S.length) ∧ (pre ≠ [] → HasPair S L)) (List.range (1 + r).toNat) (Γ := [.dat (.hand hs.ad), .dat (tupI S), .own (.lst []), .dead, .dead, .dead, .dat (.lst ((pats S.length).map tupI)), .dead]) (hs := hs1) ⟨by simpa using h1, ad1, [], _, _, _, rfl, by simp, by simp, fun z => absurd rfl z⟩ (by
      rintro pre q post Γ hs2 hks ⟨h2', ad2, L, y3, y4, y5, rfl, hl, hm, _⟩
      obtain ⟨_, hlt⟩ := range_at hks
      obtain ⟨j, p, hs3, e3, h3, ad3, hj, hp, hjp⟩ := ev_spA (c := c) (S := S) hS h2' (by omega) ad2 (L := L) (by omega) (y3 := y3) (y4 := y4) (y5 := y5) (d5 := .int q)
      have hmp := more_pats hn4 hp hj hjp
      refine ⟨_, hs3, e3, h3.mono (by rw [List.length_append]; simp; omega), ad3, L ++ [p, more j p], _, _, _, rfl, by rw [List.length_append, List.length_append]; simp; omega, fun x hx => ?_, fun _ => ⟨j, p, hj, by simp, hjp, by simp⟩⟩
      rcases List.mem_append.mp hx with hx | hx
      · exact hm x hx
      · simp only [List.mem_cons, List.not_mem_nil, or_false] at hx
        rcases hx with rfl | rfl
        · exact hp
        · exact hmp)
    obtain ⟨Γ', hs4, e4, h4, ad4, L, y3, y4, y5, rfl, hl, hm, hpair⟩ := loop
    have hr0 : (List.range (1 + r).toNat) ≠ [] := by
      intro e
      have := congrArg List.length e
      simp at this
      omega
    obtain ⟨j, p, hj, hpL, hjp, hmL⟩ := hpair hr0
    have hll : L.length ≤ 4 := by
      rw [List.length_range] at hl
      omega
    have dl : (dedup L).length ≤ 4 := Nat.le_trans ((nodup_dedup L).length_le_of_subset fun x hx => (dedup_mem x L).mp hx) hll
    have memF : ∀ x, x ∈ (dedup L).mergeSort (fun a b => decide (a ≤ b)) ↔ x ∈ L := fun x => by
      rw [(List.mergeSort_perm _ _).mem_iff, dedup_mem]
    refine ⟨(dedup L).mergeSort (fun a b => decide (a ≤ b)), hs4, fn_ret rfl ?_, ⟨hS, sort_nd_up (nodup_dedup L), fun x hx => hm x ((memF x).mp hx), fun e => ?_⟩, ⟨j, p, hj, (memF p).mpr hpL, hjp, (memF _).mpr hmL⟩, h4.mono (by rw [List.length_range]; omega), ad4⟩
    · unfold dn_law_some_pairs
      show sSeq _ _ [.dat (.hand hs.ad), .dat (tupI S), .dead, .dead, .dead, .dead, .dead, .dead] hs = _
      rw [s1]
      rw [seq_nx (Γ' := [.dat (.hand hs.ad), .dat (tupI S), .own (.lst []), .dead, .dead, .dead, .dat (.lst ((pats S.length).map tupI)), .dead]) (hs' := hs) (by simp [q2, q1])]
      rw [seq_nx (Γ' := [.dat (.hand hs.ad), .dat (tupI S), .own (.lst (L.map tupI)), y3, y4, y5, .dat (.lst ((pats S.length).map tupI)), .dead]) (hs' := hs4) (by
        rw [for_eq (rng1_eq (n := 1 + r) (hs1 := hs1) (by simp [e1, dAdd_int]) (by omega) (by omega))]
        exact e4)]
      have ds : dSet [.lst (L.map tupI)] = some (.setD ((dedup L).map tupI)) := by
        unfold dSet
        simp only [tupsD_of, Option.bind_some]
        rw [if_pos ⟨by omega, by rw [List.length_map]; omega⟩]
      have so : dSortedS [.setD ((dedup L).map tupI)] = some (fD ((dedup L).mergeSort (fun a b => decide (a ≤ b)))) := by
        unfold dSortedS
        simp only [tupsD_of, Option.bind_some]
        rw [if_pos (sortOk_tupI (by omega)), sortD_tupI]
      simp [sG, frzE, frzD, ds, so]
    · have := (memF p).mpr hpL
      rw [e] at this; cases this
end Dl
/-! the great wholes; the law. -/
namespace Dl
open PySem PySem.Spec PyProof.Rows L2
def encP (q : Nat × List Int) : D := .tup [.int q.1, tupI q.2]
def pairsOf (n : Nat) (F G : List (List Int)) : List (Nat × List Int) := G.flatMap fun p => ((List.range n).filter fun (k : Nat) => decide (more k p ∈ F)).map fun k => (k, p)
theorem pairsOf_snoc (n : Nat) (F G : List (List Int)) (p : List Int) : pairsOf n F (G ++ [p]) = pairsOf n F G ++ ((List.range n).filter fun (k : Nat) => decide (more k p ∈ F)).map fun k => (k, p) := by
  unfold pairsOf
  rw [List.flatMap_append]; simp
theorem pairsOf_len (n : Nat) (F G : List (List Int)) : (pairsOf n F G).length ≤ G.length * n := by
  unfold pairsOf
  induction G with
  | nil => simp
  | cons p G ih =>
    have := List.length_filter_le (fun (k : Nat) => decide (more k p ∈ F)) (List.range n)
    rw [List.length_range] at this
    rw [List.flatMap_cons, List.length_append, List.length_map, List.length_cons, Nat.add_mul]
    omega
theorem mem_pairsOf {n : Nat} {F G : List (List Int)} {q : Nat × List Int} : q ∈ pairsOf n F G ↔ q.1 < n ∧ q.2 ∈ G ∧ more q.1 q.2 ∈ F := by
  unfold pairsOf
  simp only [List.mem_flatMap, List.mem_map, List.mem_filter, List.mem_range, decide_eq_true_eq]
  constructor
  · rintro ⟨p, hp, k, ⟨h1, h2⟩, rfl⟩; exact ⟨h1, hp, h2⟩
  · rintro ⟨h1, h2, h3⟩; exact ⟨q.2, h2, q.1, ⟨h1, h3⟩, rfl⟩
noncomputable def grP (c : Cf) : SDn := (sExt 11 (eComp (lRng1 (eFn dLen (lCons (eVar 2) lNil))) [4] (gd1 4) (bOf (eBin dIn (eFn dTuple (lCons (eFn dSorted (lCons (eBin dAdd (eVar 3) (eTup (lCons (eVar 4) lNil))) lNil)) lNil)) (eVar 6))) (eTup (lCons (eVar 4) (lCons (eVar 3) lNil)))))
noncomputable def grT (c : Cf) : SDn := (sSeq (sAsgG (eCall (G_law_any c) (lCons (eVar 0) (lCons (eVar 1) lNil))) (gd2 4 3))
    (sIf (bOf (eBin dNeU (eCallO (toldX (G_odds c)) (lCons (eVar 10) (lCons (eVar 4) (lCons (eVar 3) lNil)))) (eCall (G_law_due c) (lCons (eVar 2) (lCons (eVar 6) (lCons (eVar 5) (lCons (eVar 4) (lCons (eVar 3) lNil))))))))
    (sRet (eC (.bl false)))
    sNext))
noncomputable def grL (c : Cf) : SDn := (sSeq (sOwn 11 (.lst []))
    (sSeq (sFor (lItemsL (eVar 6)) (gd1 3) (grP c))
    (sSeq (sG (frzE 11) (sAsg 1 (eComp (lItemsL (eVar 11)) [12] (gd1 12) (bOf (eBin dNotIn (eBin dIx (eVar 12) (eC (.int 0))) (eBin dIx (eVar 12) (eC (.int 1))))) (eVar 12))))
    (sSeq (sFor (lRng1 (eC (.int 2))) (gd1 9) (grT c))
    (sRet (eC (.bl true)))))))
theorem great_eq (c : Cf) : dn_law_is_great_right c = (sSeq (sAsg 2 (eCall (G_law_great_sizes c) (lCons (eVar 0) lNil)))
    (sSeq (sAsg 6 (eCall (G_law_some_pairs c) (lCons (eVar 0) (lCons (eVar 2) lNil))))
    (sSeq (sAsgG (eCall (G_law_tops c) (lCons (eVar 0) (lCons (eVar 2) (lCons (eVar 6) lNil)))) (gd2 7 8))
    (sSeq (sAsg 5 (eCall (G_law_bent_once c) (lCons (eVar 0) (lCons (eCall (G_law_woven c) (lCons (eVar 2) (lCons (eVar 6) (lCons (eVar 7) (lCons (eVar 8) lNil))))) lNil))))
    (sSeq (sAsg 10 (eMk c (lCons (eVar 2) (lCons (eCall (G_law_rows c) (lCons (eVar 5) (lCons (eFn dSum (lCons (eComp (lItemsK (eVar 5)) [13] (gd1 13) bYes (eBin dIxN (eVar 5) (eVar 13))) lNil)) lNil))) lNil))))
    (grL c)))))) := rfl
section
variable {c : Cf} {S : List Int} {F : List (List Int)} {w : KY → Int}
theorem ev_grP {hs : HS} (hn4 : S.length ≤ 4) {p : List Int} (hp : p.length ≤ 4) {L : List (Nat × List Int)} (hL : L.length ≤ 1000) {x0 x1 y3 x5 x7 x8 x9 x10 x12 x13 : Sl} :
    stepD (gd1 3) (grP c) (tupI p) [x0, x1, .dat (tupI S), y3, .dead, x5, .dat (fD F), x7, x8, x9, x10, .own (.lst (L.map encP)), x12, x13] hs = some (.nx [x0, x1, .dat (tupI S), .dat (tupI p), .dead, x5, .dat (fD F), x7, x8, x9, x10, .own (.lst ((L ++ ((List.range S.length).filter fun (k : Nat) => decide (more k p ∈ F)).map fun k => (k, p)).map encP)), x12, x13], hs) := by
  have ll : dLen [tupI S] = some (.int S.length) := by simp [tupI, dLen]
  rw [stepD1]
  simp only [List.set_cons_succ, List.set_cons_zero]
  have cm := comp_pure (gd := gd1 4) (cond := bOf (eBin dIn (eFn dTuple (lCons (eFn dSorted (lCons (eBin dAdd (eVar 3) (eTup (lCons (eVar 4) lNil))) lNil)) lNil)) (eVar 6))) (elt := eTup (lCons (eVar 4) (lCons (eVar 3) lNil))) (Γ := [x0, x1, .dat (tupI S), .dat (tupI p), .dead, x5, .dat (fD F), x7, x8, x9, x10, .own (.lst (L.map encP)), x12, x13]) (hs := hs) (fun (i : Nat) => D.int (i : Int)) encP (fun (k : Nat) => decide (more k p ∈ F)) (fun k => (k, p)) (List.range S.length) (fun k hk => by
    have t1 : D.tup [.int k] = tupI [(k : Int)] := rfl
    have a1 : dAdd (tupI p) (tupI [(k : Int)]) = some (tupI (p ++ [(k : Int)])) := dAdd_tupI _ _ (by simp; omega)
    have a2 : dSorted [tupI (p ++ [(k : Int)])] = some (.lst ((more k p).map D.int)) := ev_sorted_tup (by simp; omega)
    have a3 : dTuple [.lst ((more k p).map D.int)] = some (tupI (more k p)) := rfl
    have a5 := in_list (more k p) F
    exact ⟨[x0, x1, .dat (tupI S), .dat (tupI p), .dat (.int k), x5, .dat (fD F), x7, x8, x9, x10, .own (.lst (L.map encP)), x12, x13], rfl, by simp [t1, a1, a2, a3, a5], fun _ => by simp [encP]⟩)
  have cq := comp_eq (js := [4]) (hs := hs) (hs1 := hs) rfl (rng1_eq (f := eFn dLen (lCons (eVar 2) lNil)) (Γ := [x0, x1, .dat (tupI S), .dat (tupI p), .dead, x5, .dat (fD F), x7, x8, x9, x10, .own (.lst (L.map encP)), x12, x13]) (n := (S.length : Int)) (hs1 := hs) (by simp [ll]) (by omega) (by omega)) (by simp; omega) (by simpa using cm)
  have fl := List.length_filter_le (fun (k : Nat) => decide (more k p ∈ F)) (List.range S.length)
  rw [List.length_range] at fl
  unfold grP
  rw [ext_eq cq rfl (by simp only [List.length_map]; omega)]
  simp
theorem ev_grT {k : Nat} {hs : HS} {ad : Addr} (h : LwOk S F w) (hh : HI k hs) (hk : k ≤ 900000) (ha : hs.ad = ad) {L : List (Nat × List Int)} (hne : L ≠ []) (hl : L.length ≤ 1000) (hL : ∀ q ∈ L, q.2.length ≤ 4) {d9 : D} {y3 y4 x7 x8 y9 x11 x12 x13 : Sl} :
    ∃ z3 z4 hs', stepD (gd1 9) (grT c) d9 [.dat (.hand ad), .dat (.lst (L.map encP)), .dat (tupI S), y3, y4, .dat (keysW S F w), .dat (fD F), x7, x8, y9, .dat (whD S (prodK S F) w (tot S F w)), x11, x12, x13] hs = some (.nx [.dat (.hand ad), .dat (.lst (L.map encP)), .dat (tupI S), z3, z4, .dat (keysW S F w), .dat (fD F), x7, x8, .dat d9, .dat (whD S (prodK S F) w (tot S F w)), x11, x12, x13], hs') ∧ HI (k + 1) hs' ∧ hs'.ad = ad := by
  obtain ⟨x, hs1, e1, hx, h1, ad1⟩ := ev_any (c := c) (xs := L.map encP) hh (by omega) (fun e => hne (List.map_eq_nil_iff.mp e)) (by rw [List.length_map]; omega)
  rw [ha] at e1 ad1
  obtain ⟨q, hq, rfl⟩ := List.mem_map.mp hx
  have hql := hL q hq
  have hsh : PatD.short (.nums q.2) := by show q.2.length ≤ 100; omega
  have ed := ev_due (c := c) (hs := hs1) h (x := .int q.1) (y := .nums q.2) rfl trivial hsh
  have et := ev_told (c := c) (hs := hs1) h.wh (x := .int q.1) (y := .nums q.2) rfl trivial
  have pd : PatD.d (.nums q.2) = tupI q.2 := rfl
  rw [pd] at ed et
  refine ⟨.dat (tupI q.2), .dat (.int q.1), hs1, ?_, h1, ad1⟩
  rw [stepD1]
  simp only [List.set_cons_succ, List.set_cons_zero]
  unfold grT
  rw [seq_nx (Γ' := [.dat (.hand ad), .dat (.lst (L.map encP)), .dat (tupI S), .dat (tupI q.2), .dat (.int q.1), .dat (keysW S F w), .dat (fD F), x7, x8, .dat d9, .dat (whD S (prodK S F) w (tot S F w)), x11, x12, x13]) (hs' := hs1) (by simp [sAsgG, e1, gd2, encP])]
  rcases dueD_cases S (prodK S F) w (.int q.1) (.nums q.2) with ⟨d, g1, g2, g3, g4, g5⟩ | ⟨kvs, g1, g2, g3⟩
  · rw [g1] at et
    rw [g2 true] at ed
    simp [eCallO, et, ed, g3]
  · rw [g1] at et
    rw [g2 true] at ed
    simp [eCallO, et, ed, frzD, g3]
theorem ev_grL {k : Nat} {hs : HS} {ad : Addr} (h : LwOk S F w) (hp : HasPair S F) (hh : HI k hs) (hk : k ≤ 800000) (ha : hs.ad = ad) {y1 x7 x8 x11 : Sl} :
    ∃ hs', grL c [.dat (.hand ad), y1, .dat (tupI S), .dead, .dead, .dat (keysW S F w), .dat (fD F), x7, x8, .dead, .dat (whD S (prodK S F) w (tot S F w)), x11, .dead, .dead] hs = some (.ret (.bl true), hs') := by
  have hn4 := h.sz.sz.len
  have hf := h.few
  unfold grL
  rw [seq_nx (Γ' := [.dat (.hand ad), y1, .dat (tupI S), .dead, .dead, .dat (keysW S F w), .dat (fD F), x7, x8, .dead, .dat (whD S (prodK S F) w (tot S F w)), .own (.lst []), .dead, .dead]) (hs' := hs) (by simp [sOwn])]
  have loop := for_inv (step := stepD (gd1 3) (grP c)) tupI (fun pre Γ h => h = hs ∧ ∃ y3, Γ = [.dat (.hand ad), y1, .dat (tupI S), y3, .dead, .dat (keysW S F w), .dat (fD F), x7, x8, .dead, .dat (whD S (prodK S F) w (tot S F w)), .own (.lst ((pairsOf S.length F pre).map encP)), .dead, .dead]) F (Γ := [.dat (.hand ad), y1, .dat (tupI S), .dead, .dead, .dat (keysW S F w), .dat (fD F), x7, x8, .dead, .dat (whD S (prodK S F) w (tot S F w)), .own (.lst []), .dead, .dead]) (hs := hs) ⟨rfl, _, rfl⟩ (by
    rintro pre p post Γ hs1 hF ⟨rfl, y3, rfl⟩
    have hpm : p ∈ F := by rw [hF]; simp
    have hpre : pre.length ≤ 16 := by
      have := congrArg List.length hF
      simp at this
      omega
    have pl := pairsOf_len S.length F pre
    have pl2 : pre.length * S.length ≤ 16 * 4 := Nat.mul_le_mul hpre hn4
    have e := ev_grP (c := c) (hs := hs1) (S := S) (F := F) hn4 (h.pl p hpm) (L := pairsOf S.length F pre) (by omega) (x0 := .dat (.hand ad)) (x1 := y1) (y3 := y3) (x5 := .dat (keysW S F w)) (x7 := x7) (x8 := x8) (x9 := .dead) (x10 := .dat (whD S (prodK S F) w (tot S F w))) (x12 := .dead) (x13 := .dead)
    rw [← pairsOf_snoc] at e
    exact ⟨_, hs1, e, rfl, _, rfl⟩)
  obtain ⟨Γ', hs', e, rfl, y3, rfl⟩ := loop
  rw [seq_nx (Γ' := [.dat (.hand ad), y1, .dat (tupI S), y3, .dead, .dat (keysW S F w), .dat (fD F), x7, x8, .dead, .dat (whD S (prodK S F) w (tot S F w)), .own (.lst ((pairsOf S.length F F).map encP)), .dead, .dead]) (hs' := hs') (by
    rw [for_eq (items := F.map tupI) (hs1 := hs') (items_eq (by simp))]
    exact e)]
  have pl := pairsOf_len S.length F F
  have pl2 : F.length * S.length ≤ 16 * 4 := Nat.mul_le_mul hf hn4
  have cm := comp_pure (gd := gd1 12) (cond := bOf (eBin dNotIn (eBin dIx (eVar 12) (eC (.int 0))) (eBin dIx (eVar 12) (eC (.int 1))))) (elt := eVar 12) (Γ := [.dat (.hand ad), y1, .dat (tupI S), y3, .dead, .dat (keysW S F w), .dat (fD F), x7, x8, .dead, .dat (whD S (prodK S F) w (tot S F w)), .dat (.lst ((pairsOf S.length F F).map encP)), .dead, .dead]) (hs := hs') encP encP (fun q => !decide ((q.1 : Int) ∈ q.2)) id (pairsOf S.length F F) (fun q hq => by
    have n1 := notin_tup q.1 q.2
    have i0 : dIx (encP q) (.int 0) = some (.int q.1) := rfl
    have i1 : dIx (encP q) (.int 1) = some (tupI q.2) := rfl
    refine ⟨[.dat (.hand ad), y1, .dat (tupI S), y3, .dead, .dat (keysW S F w), .dat (fD F), x7, x8, .dead, .dat (whD S (prodK S F) w (tot S F w)), .dat (.lst ((pairsOf S.length F F).map encP)), .dat (encP q), .dead], rfl, ?_, fun _ => by simp⟩
    by_cases hm : (q.1 : Int) ∈ q.2 <;> simp [hm] at n1 <;> simp [n1, hm, i0, i1])
  rw [List.map_id] at cm
  have cq := comp_eq (src := lItemsL (eVar 11)) (js := [12]) (hs := hs') (hs1 := hs') rfl (items_eq (by simp)) (by rw [List.length_map]; omega) cm
  have fl := List.length_filter_le (fun q : Nat × List Int => !decide ((q.1 : Int) ∈ q.2)) (pairsOf S.length F F)
  have hne : (pairsOf S.length F F).filter (fun q => !decide ((q.1 : Int) ∈ q.2)) ≠ [] := fun e => by
    obtain ⟨j, p, hj, hpF, hjp, hm⟩ := hp
    have : (j, p) ∈ (pairsOf S.length F F).filter (fun q => !decide ((q.1 : Int) ∈ q.2)) := List.mem_filter.mpr ⟨mem_pairsOf.mpr ⟨hj, hpF, hm⟩, by simp [hjp]⟩
    rw [e] at this; cases this
  have hLp : ∀ q ∈ (pairsOf S.length F F).filter (fun q => !decide ((q.1 : Int) ∈ q.2)), q.2.length ≤ 4 := fun q hq => h.pl _ (mem_pairsOf.mp (List.mem_filter.mp hq).1).2.1
  generalize (pairsOf S.length F F).filter (fun q => !decide ((q.1 : Int) ∈ q.2)) = L at *
  rw [seq_nx (Γ' := [.dat (.hand ad), .dat (.lst (L.map encP)), .dat (tupI S), y3, .dead, .dat (keysW S F w), .dat (fD F), x7, x8, .dead, .dat (whD S (prodK S F) w (tot S F w)), .dat (.lst ((pairsOf S.length F F).map encP)), .dead, .dead]) (hs' := hs') (by
    unfold sG frzE
    simp only [List.getElem?_cons_succ, List.getElem?_cons_zero, frzD, List.set_cons_succ, List.set_cons_zero]
    rw [asg cq]
    rfl)]
  have loop2 := for_inv (step := stepD (gd1 9) (grT c)) (fun (i : Nat) => D.int (i : Int)) (fun pre Γ h => HI (k + pre.length) h ∧ h.ad = ad ∧ ∃ y3 y4 y9, Γ = [.dat (.hand ad), .dat (.lst (L.map encP)), .dat (tupI S), y3, y4, .dat (keysW S F w), .dat (fD F), x7, x8, y9, .dat (whD S (prodK S F) w (tot S F w)), .dat (.lst ((pairsOf S.length F F).map encP)), .dead, .dead]) (List.range 2) (Γ := [.dat (.hand ad), .dat (.lst (L.map encP)), .dat (tupI S), y3, .dead, .dat (keysW S F w), .dat (fD F), x7, x8, .dead, .dat (whD S (prodK S F) w (tot S F w)), .dat (.lst ((pairsOf S.length F F).map encP)), .dead, .dead]) (hs := hs') ⟨by simpa using hh, ha, _, _, _, rfl⟩ (by
    rintro pre q post Γ hs2 hr ⟨h2, ad2, i3, i4, i9, rfl⟩
    obtain ⟨_, hlt⟩ := range_at hr
    obtain ⟨z3, z4, hs3, e3, h3, ad3⟩ := ev_grT (c := c) h h2 (by omega) ad2 hne (by omega) hLp (d9 := .int q) (y3 := i3) (y4 := i4) (x7 := x7) (x8 := x8) (y9 := i9) (x11 := .dat (.lst ((pairsOf S.length F F).map encP))) (x12 := .dead) (x13 := .dead)
    exact ⟨_, hs3, e3, by simpa [Nat.add_assoc] using h3, ad3, _, _, _, rfl⟩)
  obtain ⟨Γ', hs4, e4, h4, ad4, z3, z4, z9, rfl⟩ := loop2
  refine ⟨hs4, ?_⟩
  rw [seq_nx (Γ' := [.dat (.hand ad), .dat (.lst (L.map encP)), .dat (tupI S), z3, z4, .dat (keysW S F w), .dat (fD F), x7, x8, z9, .dat (whD S (prodK S F) w (tot S F w)), .dat (.lst ((pairsOf S.length F F).map encP)), .dead, .dead]) (hs' := hs4) (by
    rw [for_eq (rng1_eq (n := 2) (hs1 := hs') (by simp) (by omega) (by omega))]
    exact e4)]
  simp
end
theorem ev_great {c : Cf} {k : Nat} {hs : HS} (h : HI k hs) (hk : k ≤ 500000) : ∃ hs', G_law_is_great_right c [.hand hs.ad] hs = some (.bl true, hs') := by
  obtain ⟨S, hs1, e1, hS, h1, ad1⟩ := ev_great_sizes (c := c) h (by omega)
  obtain ⟨sz, s3⟩ := gz_ok S hS
  obtain ⟨F, hs2, e2, fs, hp, h2, ad2⟩ := ev_some_pairs (c := c) sz h1 (by omega)
  rw [ad1] at e2 ad2
  obtain ⟨tk, bk, hs3, e3, tb, h3, ad3⟩ := ev_tops (c := c) (S := S) (F := F) sz.sz fs.few h2 (by omega)
  rw [ad2] at e3 ad3
  have ew := ev_woven (c := c) (hs := hs3) tb sz.sz fs.few fs.up fs.pl
  have bd := TB.bd fs tb
  obtain ⟨w, hs4, e4, b4, h4, ad4⟩ := ev_bent_once (c := c) (prodK_klt (S := S) fs.up) fs.pne fs.card (by omega) bd h3 (by omega)
  rw [ad3] at e4 ad4
  have e4' : G_law_bent_once c [.hand hs.ad, keysW S F (wv tk bk F)] hs3 = some (keysW S F w, hs4) := e4
  have lw := fs.lw (by omega) b4
  obtain ⟨hs5, e5⟩ := ev_grL (c := c) lw hp h4 (by omega) ad4 (y1 := .dead) (x7 := .dat (.dic true tk)) (x8 := .dat (.dic true bk)) (x11 := .dead)
  refine ⟨hs5, fn_ret rfl ?_⟩
  show dn_law_is_great_right c [.dat (.hand hs.ad), .dead, .dead, .dead, .dead, .dead, .dead, .dead, .dead, .dead, .dead, .dead, .dead, .dead] hs = _
  rw [great_eq]
  rw [seq_nx (asg (d := tupI S) (hs' := hs1) (by simp [e1]))]
  simp only [List.set_cons_succ, List.set_cons_zero]
  rw [seq_nx (asg (d := fD F) (hs' := hs2) (by simp [e2]))]
  simp only [List.set_cons_succ, List.set_cons_zero]
  rw [seq_nx (Γ' := [.dat (.hand hs.ad), .dead, .dat (tupI S), .dead, .dead, .dead, .dat (fD F), .dat (.dic true tk), .dat (.dic true bk), .dead, .dead, .dead, .dead, .dead]) (hs' := hs3) (by simp [sAsgG, e3, gd2])]
  rw [seq_nx (asg (d := keysW S F w) (hs' := hs4) (by simp [ew, e4']))]
  simp only [List.set_cons_succ, List.set_cons_zero]
  have sm := ev_sum lw (c := c) (hs := hs4) (Γ := [.dat (.hand hs.ad), .dead, .dat (tupI S), .dead, .dead, .dat (keysW S F w), .dat (fD F), .dat (.dic true tk), .dat (.dic true bk), .dead, .dead, .dead, .dead, .dead]) (i := 5) (j := 13) rfl rfl (by omega)
  have rw1 := ev_law_rows lw (c := c) (hs := hs4)
  have mk := ev_mk lw (c := c) (hs := hs4) (l := lCons (eVar 2) (lCons (eCall (G_law_rows c) (lCons (eVar 5) (lCons (eFn dSum (lCons (eComp (lItemsK (eVar 5)) [13] (gd1 13) bYes (eBin dIxN (eVar 5) (eVar 13))) lNil)) lNil))) lNil)) (Γ := [.dat (.hand hs.ad), .dead, .dat (tupI S), .dead, .dead, .dat (keysW S F w), .dat (fD F), .dat (.dic true tk), .dat (.dic true bk), .dead, .dead, .dead, .dead, .dead]) (by
    simp only [x_call, x_cons, x_nil, x_var, List.getElem?_cons_succ, List.getElem?_cons_zero, Option.bind_some, Option.map_some, sm, rw1])
  rw [seq_nx (asg mk)]
  simp only [List.set_cons_succ, List.set_cons_zero]
  exact e5
theorem pure (c : Cf) (ns : List Int) (ha la : Addr) (hn : ns.length ≤ 63) : ∃ hs', dn_law c (E_law ha) (hand0 ha la ns) = some (.ret (.bl true), hs') := by
  have h0 := HI.zero ha la ns hn
  obtain ⟨r, hs1, e1, r0, r1, h1, ad1⟩ := ev_draw (c := c) (many := 8) h0 (by omega) (by omega) (by omega)
  have e1' : G_law_draw c [.hand ha, .int 8] (hand0 ha la ns) = some (.int r, hs1) := e1
  have ad1' : hs1.ad = ha := ad1
  rw [law_eq]
  by_cases h5 : r = 5
  · obtain ⟨hs2, e2⟩ := ev_great (c := c) h1 (by omega)
    rw [ad1'] at e2
    exact ⟨hs2, by simp [E_law, e1', dEqX_int, h5, e2]⟩
  · have loop := for_inv (step := stepD (gd1 10) (lwA c)) (fun (i : Nat) => D.int (i : Int)) (fun pre Γ h => HI (0 + 1 + 12000 * pre.length) h ∧ h.ad = ha ∧ lwI ha Γ) (List.range 2) (Γ := E_law ha) (hs := hs1) ⟨by simpa using h1, ad1', _, _, _, _, _, _, _, _, _, _, _, _, _, _, _, _, _, _, rfl⟩ (by
      rintro pre q post Γ hs2 hr ⟨h2, ad2, y0, y2, y3, y4, y5, y6, y7, y8, y9, y10, y11, y12, y13, y14, y15, y16, y17, y18, rfl⟩
      obtain ⟨_, hlt⟩ := range_at hr
      obtain ⟨Γ', hs3, e3, h3, ad3, hI⟩ := ev_lwA (c := c) h2 (by omega) ad2 [y0, .dat (.hand ha), y2, y3, y4, y5, y6, y7, y8, y9, .dat (.int q), y11, y12, y13, y14, y15, y16, y17, y18, .dead] ⟨_, _, _, _, _, _, _, _, _, _, _, _, _, _, _, _, _, _, rfl⟩
      exact ⟨Γ', hs3, e3, h3.mono (by rw [List.length_append]; simp; omega), ad3, hI⟩)
    obtain ⟨Γ', hs2, e2, h2, ad2, hI⟩ := loop
    refine ⟨hs2, ?_⟩
    rw [seq_nx (Γ' := E_law ha) (hs' := hs1) (by simp [E_law, e1', dEqX_int, h5])]
    rw [seq_nx (Γ' := Γ') (hs' := hs2) (by
      rw [for_eq (rng1_eq (n := 2) (hs1 := hs1) (by simp) (by omega) (by omega))]
      exact e2)]
    simp
end Dl
set_option maxHeartbeats 0
open PySem PySem.W PySem.Calls PyProof.Rows
theorem Dl.holds_of (pure : ∀ (c : Dl.Cf) (ns : List Int) (ha la : Addr), ns.length ≤ 63 → ∃ hs', Dl.dn_law c (Dl.E_law ha) (Dl.hand0 ha la ns) = some (.ret (.bl true), hs')) : PySem.Challenge.rw_calmblanks_k28_whole_odds_along_columns.Holds := by
  w_on; o_law
  refine HandSHeadRun.head_any (r := OpenLaw.row PySem.Challenge.rw_calmblanks_k28_whole_odds_along_columns) (q := view (OpenLaw.row PySem.Challenge.rw_calmblanks_k28_whole_odds_along_columns).prog [70]) (H := Dl.hk) (ob := Dl.ob) (M := 4000) (loose := Dl.loose) (d := HandSHeadRun.topDef (OpenLaw.row PySem.Challenge.rw_calmblanks_k28_whole_odds_along_columns).prog 70) (kwd := []) Dl.ob_eq
    (by kernel_rfl) (fun s => by kernel_rfl) Dl.run (by kernel_rfl) (by kernel_rfl) (by kernel_rfl) (by rfl) (by first | assumption | decide +kernel) (by decide +kernel) ⟨rfl, rfl, rfl, rfl, rfl, by decide +kernel⟩ ?hw ?hc
  case hw => w_witness2
  case hc =>
    refine LamX.walk_ofTsE (l := PySem.Challenge.rw_calmblanks_k28_whole_odds_along_columns) (n := 63) (k := 12) (x := "_law_script") (CX := fun _ => L2.CX0) rfl (by decide) (by kernel_rfl) ⟨rfl, by decide, by decide⟩ ?F (fun _ _ _ _ _ z => z)
    intro w mg fa h Y G hmg0
    obtain ⟨K, KX, c⟩ := Y
    have hmg : mg ("law" : PySem.Str) = some (.ref fa) := by
      have e : (HandSHeadRun.topDef (OpenLaw.row PySem.Challenge.rw_calmblanks_k28_whole_odds_along_columns).prog 70).name = ("law" : PySem.Str) := by kernel_rfl
      rw [← e]
      exact hmg0
    exact ⟨K, KX, Dl.facts pure KX G hmg c⟩
theorem PySem.Challenge.cw_calmblanks_k28_whole_odds_along_columns_holds : PySem.Challenge.rw_calmblanks_k28_whole_odds_along_columns.Holds :=
  Dl.holds_of Dl.pure
