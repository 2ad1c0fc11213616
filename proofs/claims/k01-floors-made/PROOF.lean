import PyProof.Rows.All
import HandS.Style
import Wide.All
import OpenK.AllK
import Wide.FinOn
import HandS.ForMost
import HandS.Exc
import HandS.TryOnly
import HandS.ExcOwn
import HandS.WordsExc
import HandS.Deep
import HandS.TupLe
import HandS.TupAny
import HandS.Zip
import HandS.HotCalls
import HandS.ExcIs
import HandS.IsInst
import HandS.Conv
import HandS.SortRule
import HandS.More
import KE.KDictKeyed
import KE.KDictCopyH
import KE.KDictSum
import HandS.SuiteRaise
import HandS.SetFor
import HandS.Iter
import HandS.ExcBuiltin
import HandS.Words
import PySem.Challenge.RW_chasefloor_k01_floors_made
set_option Elab.async false
set_option maxRecDepth 100000
set_option maxHeartbeats 4000000
/-! Dicts whose keys are pairs (tuple of whole numbers, whole number). -/
namespace CF
open PySem L2

/-- such a key: the numbers of the inner tuple, and the number behind -/
abbrev NK := List Int × Int
def nkN (k : NK) : NestedKey := .tup [.tup (k.1.map NestedKey.num), .num k.2]
theorem nums_inj : ∀ {a b : List Int}, a.map NestedKey.num = b.map NestedKey.num → a = b
  | [], [], _ => rfl
  | [], _ :: _, e => by simp at e
  | _ :: _, [], e => by simp at e
  | x :: xs, y :: ys, e => by
    rw [List.map_cons, List.map_cons] at e
    injection e with e1 e2
    injection e1 with e1
    rw [e1, nums_inj e2]
theorem nkN_inj {a b : NK} (e : nkN a = nkN b) : a = b := by
  obtain ⟨a1, a2⟩ := a
  obtain ⟨b1, b2⟩ := b
  unfold nkN at e
  injection e with e
  injection e with e1 e2
  injection e1 with e1
  injection e2 with e2 _
  injection e2 with e2
  have := nums_inj e1
  simp at e2
  subst e2
  subst this
  rfl
/-- the tuple at b is the key k -/
def NAt (H : Hp) (b : Addr) (k : NK) : Prop := ∃ q, H b = some (.tup [.ref q, .int k.2]) ∧ H q = some (.tup (k.1.map V.int))
theorem NAt.ext {H H' : Hp} {b : Addr} {k : NK} (h : NAt H b k) (e : ∀ b xs, H b = some (.tup xs) → H' b = some (.tup xs)) : NAt H' b k := by
  obtain ⟨q, h1, h2⟩ := h
  exact ⟨q, e _ _ h1, e _ _ h2⟩

section
variable {P : Program} {w : World} {H : Hp} {h : Heap}
theorem tup_at {a : Addr} {xs : List V} (ok : HOk P w H h) (e : H a = some (.tup xs)) : ∃ its o n, Vals xs its ∧ h.get? a = some o ∧ o.cls = .type "tuple" ∧ o.data = .seq its.toArray n := by
  obtain ⟨_, its, r, o, h1, h2, n, h3⟩ := (show ObjOk P w H h a (.tup xs) from ok a _ e)
  exact ⟨its, o, n, r, h1, h2, h3⟩
theorem nums_all : ∀ {ks : List Int} {us : List Value}, Vals (ks.map V.int) us → NestedAll h (ks.map NestedKey.num) us
  | [], _, r => by cases r; exact .nil
  | k :: ks, _, r => by
    rw [List.map_cons] at r
    cases r with
    | cons h1 t =>
      obtain ⟨tk, e⟩ := h1
      subst e
      exact .cons (.int k tk) (nums_all t)
theorem depth_nums : ∀ ks : List Int, NestedKey.depthAll (ks.map NestedKey.num) = 0
  | [] => rfl
  | k :: ks => by rw [List.map_cons, NestedKey.depthAll, depth_nums ks]; rfl
theorem nkN_depth (k : NK) : (nkN k).depth ≤ 8 := by
  unfold nkN
  simp [NestedKey.depth, NestedKey.depthAll, depth_nums]
theorem NAt.is {b : Addr} {k : NK} (x : NAt H b k) (ok : HOk P w H h) : (nestedKind P w).is h (nkN k) b := by
  obtain ⟨q, h1, h2⟩ := x
  obtain ⟨its, o, n, r, g1, g2, g3⟩ := tup_at ok h1
  obtain ⟨its2, o2, n2, r2, f1, f2, f3⟩ := tup_at ok h2
  cases r with
  | cons r1 r =>
    cases r with
    | cons r3 r =>
      cases r
      cases r1
      obtain ⟨t, e⟩ := r3
      subst e
      refine ⟨.tup g1 g2 g3 (.cons (.tup f1 f2 f3 ?_) (.cons (.int _ t) .nil)), nkN_depth k⟩
      simpa using nums_all r2
end

/-- the raw entries at a -/
def dNraw (P : Program) (w : World) (a : Addr) (xs : List (NestedKey × Addr × Value)) (h : Heap) : Prop :=
  ∃ o es ep, h.get? a = some o ∧ o.ExactDict ∧ o.data = .dict es ep ∧ es.toList = xs.map (entryOfKey (nestedKind P w)) ∧ (xs.map (·.1)).Nodup
def dN (P : Program) (w : World) (a : Addr) (xs : List (NestedKey × Addr × Value)) : HO := .ext (dNraw P w a xs)
abbrev NRel (H : Hp) : List (NK × Int) → List (NestedKey × Addr × Value) → Prop := Paired fun p q => q.1 = nkN p.1 ∧ NAt H q.2.1 p.1 ∧ RelV (.int p.2) q.2.2
/-- at a stands a dict of such keys, its pairs kvs -/
def RkAt (P : Program) (w : World) (H : Hp) (a : Addr) (kvs : List (NK × Int)) : Prop :=
  kvs.length ≤ sizeLine ∧ (a == sysModules) = false ∧ ∃ xs, H a = some (dN P w a xs) ∧ NRel H kvs xs
def getN (kvs : List (NK × Int)) (k : NK) : Option Int := (kvs.find? fun kv => decide (kv.1 = k)).map (·.2)
def putN (kvs : List (NK × Int)) (k : NK) (v : Int) : List (NK × Int) :=
  if (getN kvs k).isSome = true then kvs.map (fun kv => if kv.1 = k then (kv.1, v) else kv) else kvs ++ [(k, v)]
theorem getN_nil (k : NK) : getN [] k = none := rfl
theorem getN_pos {p : NK × Int} {r : List (NK × Int)} {k : NK} (e : p.1 = k) : getN (p :: r) k = some p.2 := by simp [getN, e]
theorem getN_neg {p : NK × Int} {r : List (NK × Int)} {k : NK} (e : ¬ p.1 = k) : getN (p :: r) k = getN r k := by simp [getN, e]
theorem getN_map (k j : NK) (y : Int) : ∀ kvs : List (NK × Int), getN (kvs.map fun kv => if kv.1 = k then (kv.1, y) else kv) j = (getN kvs j).map fun x => if j = k then y else x
  | [] => rfl
  | p :: r => by
    have ih := getN_map k j y r
    rw [List.map_cons]
    by_cases e : p.1 = j
    · rw [getN_pos e]
      by_cases c : p.1 = k
      · rw [if_pos c, getN_pos (p := (p.1, y)) e]
        simp [← e, c]
      · rw [if_neg c, getN_pos e]
        simp [← e, c]
    · rw [getN_neg e, ← ih]
      by_cases c : p.1 = k
      · rw [if_pos c, getN_neg (p := (p.1, y)) e]
      · rw [if_neg c, getN_neg e]
theorem getN_snoc (k j : NK) (y : Int) : ∀ kvs : List (NK × Int), getN kvs k = none → getN (kvs ++ [(k, y)]) j = if j = k then some y else getN kvs j
  | [], _ => by
    by_cases c : j = k
    · subst c
      rw [if_pos rfl]
      exact getN_pos rfl
    · rw [if_neg c]
      exact getN_neg (fun e => c e.symm)
  | p :: r, h => by
    have hp : ¬ p.1 = k := fun e => by rw [getN_pos e] at h; cases h
    rw [getN_neg hp] at h
    rw [List.cons_append]
    by_cases e : p.1 = j
    · rw [getN_pos e, getN_pos e, if_neg (fun c => hp (e.trans c))]
    · rw [getN_neg e, getN_neg e, getN_snoc k j y r h]
theorem getN_put (kvs : List (NK × Int)) (k j : NK) (y : Int) : getN (putN kvs k y) j = if j = k then some y else getN kvs j := by
  unfold putN
  by_cases c : (getN kvs k).isSome = true
  · rw [if_pos c, getN_map]
    by_cases e : j = k
    · subst e
      obtain ⟨v, hv⟩ := Option.isSome_iff_exists.mp c
      simp [hv]
    · rw [if_neg e]
      simp [e]
  · rw [if_neg c]
    exact getN_snoc k j y kvs (by simpa using c)
theorem length_putN (kvs : List (NK × Int)) (k : NK) (v : Int) : (putN kvs k v).length ≤ kvs.length + 1 := by
  unfold putN
  split
  · rw [List.length_map]; omega
  · rw [List.length_append]; simp

section
variable {H : Hp}
theorem NRel.get {kvs : List (NK × Int)} {xs : List (NestedKey × Addr × Value)} (r : NRel H kvs xs) (k : NK) : RelO ((getN kvs k).map V.int) (valueAt (pairsH xs) (nkN k)) := by
  induction r with
  | nil => exact True.intro
  | @cons p q ps qs hh t ih =>
    obtain ⟨h1, _, h2⟩ := hh
    by_cases e : p.1 = k
    · have b : valueAt (pairsH (q :: qs)) (nkN k) = some q.2.2 := by simp [pairsH, valueAt, h1, e]
      rw [getN_pos e, b]
      exact h2
    · have e' : ¬ nkN p.1 = nkN k := fun z => e (nkN_inj z)
      have b : valueAt (pairsH (q :: qs)) (nkN k) = valueAt (pairsH qs) (nkN k) := by simp [pairsH, valueAt, h1, e']
      rw [getN_neg e, b]
      exact ih
theorem NRel.any {kvs : List (NK × Int)} {xs : List (NestedKey × Addr × Value)} (r : NRel H kvs xs) (k : NK) : (atKey xs (nkN k)).isSome = (getN kvs k).isSome := by
  have q := (r.get k).isSome_eq
  rw [valueAt_pairsH, Option.isSome_map, Option.isSome_map] at q
  exact q.symm
theorem NRel.repl {kvs : List (NK × Int)} {xs : List (NestedKey × Addr × Value)} (r : NRel H kvs xs) (k : NK) {y : Int} {u : Value} (ry : RelV (.int y) u) :
    NRel H (kvs.map fun kv => if kv.1 = k then (kv.1, y) else kv) (xs.map (putAt (nkN k) u)) := by
  induction r with
  | nil => exact .nil
  | @cons p q ps qs hh t ih =>
    obtain ⟨h1, h2, h3⟩ := hh
    rw [List.map_cons, List.map_cons]
    refine .cons ?_ ih
    unfold putAt
    by_cases e : p.1 = k
    · rw [if_pos e, if_pos (by rw [h1, e])]
      exact ⟨h1, h2, ry⟩
    · rw [if_neg e, if_neg (fun z => e (nkN_inj (h1.symm.trans z)))]
      exact ⟨h1, h2, h3⟩
theorem NRel.put {kvs : List (NK × Int)} {xs : List (NestedKey × Addr × Value)} (r : NRel H kvs xs) (k : NK) {b : Addr} {y : Int} {u : Value} (hb : NAt H b k) (ry : RelV (.int y) u) : NRel H (putN kvs k y) (storedH xs (nkN k) b u) := by
  unfold putN storedH
  rw [r.any k]
  by_cases c : (getN kvs k).isSome = true
  · rw [if_pos c, if_pos c]
    exact r.repl k ry
  · rw [if_neg c, if_neg c]
    exact Paired.snoc r ⟨rfl, hb, ry⟩
theorem NRel.ext {H' : Hp} {kvs : List (NK × Int)} {xs : List (NestedKey × Addr × Value)} (r : NRel H kvs xs) (e : ∀ b ys, H b = some (.tup ys) → H' b = some (.tup ys)) : NRel H' kvs xs :=
  Paired.mapP r fun _ _ z => ⟨z.1, z.2.1.ext e, z.2.2⟩
end
theorem NRel.all {P : Program} {w : World} {H : Hp} {h : Heap} {kvs : List (NK × Int)} {xs : List (NestedKey × Addr × Value)} (r : NRel H kvs xs) (ok : HOk P w H h) : ∀ x ∈ xs, (nestedKind P w).is h x.1 x.2.1 := by
  induction r with
  | nil => intro y hy; cases hy
  | @cons p q ps qs hh t ih =>
    intro y hy
    rcases List.mem_cons.mp hy with e | hy
    · subst e
      rw [hh.1]
      exact hh.2.1.is ok
    · exact ih y hy
theorem RkAt.ext {P : Program} {w : World} {H H' : Hp} {a : Addr} {kvs : List (NK × Int)} (x : RkAt P w H a kvs) (e : ∀ b o, H b = some o → H' b = some o) : RkAt P w H' a kvs := by
  obtain ⟨h1, h2, xs, h3, h4⟩ := x
  exact ⟨h1, h2, xs, e _ _ h3, h4.ext fun b ys q => e _ _ q⟩
theorem RkAt.keyed {P : Program} {w : World} {H : Hp} {h : Heap} {a : Addr} {kvs : List (NK × Int)} (x : RkAt P w H a kvs) (ok : HOk P w H h) :
    ∃ xs, H a = some (dN P w a xs) ∧ NRel H kvs xs ∧ h.DictOfH (nestedKind P w) a xs := by
  obtain ⟨_, _, xs, h3, h4⟩ := x
  obtain ⟨⟨o, es, ep, g1, g2, g3, g4, g5⟩, _, _⟩ := (show ObjOk P w H h a (dN P w a xs) from ok a _ h3)
  exact ⟨xs, h3, h4, o, es, ep, g1, g2, g3, g4, h4.all ok, g5⟩
end CF

namespace CF
open PySem L2
section
variable {X : Cx} {pins : List (Addr × Obj)} {σ : L2.St} {H : Hp} {s : Shared} {a b : Addr} {k : NK} {kvs : List (NK × Int)} {E : Value → Shared → Prop}
theorem rk_room {A : Around} (hu : A.units + 64 < cLine) : (nestedKind X.prog X.w).room A.in1 := by
  show A.units + 1 + 8 < cLine
  omega
theorem rk_in {Q : Value → Shared → Prop} (hu : X.A.units + 64 < cLine) (I : Inv X pins σ H s) (r : RkAt X.prog X.w H a kvs) (kb : NAt H b k)
    (q : ∀ s', Inv X pins σ H s' → Q (.bool (getN kvs k).isSome) s') : wpAny (model X.prog X.w) X.A (compareOp .In (.ref b) (.ref a)) Q E s := by
  obtain ⟨xs, _, rel, dd⟩ := r.keyed I.hok
  refine in_keyed (rk_room hu) (kb.is I.hok) r.2.1 ⟨xs, dd, rfl⟩ ?_
  have e := (rel.get k).isSome_eq
  rw [Option.isSome_map] at e
  rw [← e]
  exact q _ (I.tok _)
theorem rk_notIn {Q : Value → Shared → Prop} (hu : X.A.units + 64 < cLine) (I : Inv X pins σ H s) (r : RkAt X.prog X.w H a kvs) (kb : NAt H b k)
    (q : ∀ s', Inv X pins σ H s' → Q (.bool (!(getN kvs k).isSome)) s') : wpAny (model X.prog X.w) X.A (compareOp .NotIn (.ref b) (.ref a)) Q E s := by
  obtain ⟨xs, _, rel, dd⟩ := r.keyed I.hok
  refine notIn_keyed (rk_room hu) (kb.is I.hok) r.2.1 ⟨xs, dd, rfl⟩ ?_
  have e := (rel.get k).isSome_eq
  rw [Option.isSome_map] at e
  rw [← e]
  exact q _ (I.tok _)
theorem rk_item {v : Int} {Q : Value → Shared → Prop} (hu : X.A.units + 64 < cLine) (I : Inv X pins σ H s) (r : RkAt X.prog X.w H a kvs) (kb : NAt H b k) (hv : getN kvs k = some v)
    (q : ∀ u s', Inv X pins σ H s' → RelV (.int v) u → Q u s') : wpAny (model X.prog X.w) X.A (getItem (.ref a) (.ref b)) Q E s := by
  obtain ⟨xs, _, rel, dd⟩ := r.keyed I.hok
  have e := rel.get k
  rw [hv] at e
  obtain ⟨u, hu', ru⟩ := RelO.some_of e
  exact getItem_keyed (rk_room hu) (kb.is I.hok) ⟨xs, dd, rfl⟩ hu' (q u _ (I.tok _) ru)
theorem rk_get {Q : Value → Shared → Prop} (hu : X.A.units + 64 < cLine) (I : Inv X pins σ H s) (r : RkAt X.prog X.w H a kvs) (kb : NAt H b k)
    (q : ∀ u s', Inv X pins σ H s' → RelV (((getN kvs k).map V.int).getD .non) u → Q u s') : wpAny (model X.prog X.w) X.A (call (.builtin "dict.get") [.ref a, .ref b]) Q E s := by
  obtain ⟨xs, _, rel, dd⟩ := r.keyed I.hok
  exact get_keyed (rk_room hu) (kb.is I.hok) r.2.1 ⟨xs, dd, rfl⟩ (q _ _ (I.tok _) ((rel.get k).getD rfl))
/-- the dict behind a[b] = v -/
def RkPut (P : Program) (w : World) (H : Hp) (a : Addr) (b : Addr) (v : V) (H' : Hp → Prop) : Prop :=
  ∃ k kvs y, RkAt P w H a kvs ∧ NAt H b k ∧ v = .int y ∧ kvs.length < sizeLine ∧
    ∀ o, RkAt P w (upd H a o) a (putN kvs k y) → H' (upd H a o)
theorem rk_set {v : V} {u : Value} {Z : Hp → Prop} {Q : Unit → Shared → Prop} (hu : X.A.units + 64 < cLine) (I : Inv X pins σ H s) (g : RkPut X.prog X.w H a b v Z) (rv : RelV v u)
    (q : ∀ s' H', Inv X pins σ H' s' → Z H' → Q () s') : wpAny (model X.prog X.w) X.A (setItem (.ref a) (.ref b) u) Q E s := by
  obtain ⟨k, kvs, y, r, kb, ev, hl, z⟩ := g
  subst ev
  obtain ⟨xs, ha, rel, dd⟩ := r.keyed I.hok
  have lx : xs.length ≤ sizeLine := by
    rw [← Paired.length rel]
    omega
  refine wpAny_setItem_heap (hsz := lx) (rk_room hu) (kb.is I.hok) dd fun h' dd' hs => ?_
  obtain ⟨o, es, ep, g1, g2, g3, g4, g5, g6⟩ := id dd'
  have fin : dNraw X.prog X.w a (storedH xs (nkN k) b u) h' := ⟨o, es, ep, g1, g2, g3, g4, g6⟩
  have new : ObjOk X.prog X.w (upd H a (dN X.prog X.w a (storedH xs (nkN k) b u))) h' a (dN X.prog X.w a (storedH xs (nkN k) b u)) :=
    ⟨fin, ⟨o, g1⟩, fun h1 h2 ⟨o', es', ep', f1, f2⟩ st => ⟨o', es', ep', st _ f1, f2⟩⟩
  have mu : Mut (H a) := by
    rw [ha]
    trivial
  have J := d_write (t' := s.toks + (nestedKind X.prog X.w).draws (nkN k)) I mu hs ⟨o, g1⟩ new
  refine q _ _ J (z _ ⟨?_, r.2.1, _, upd_same, ?_⟩)
  · have := length_putN kvs k y
    omega
  · refine (rel.put k kb rv).ext fun c ys ec => ?_
    rw [upd_ne (ne_of ec ha (fun z => nomatch z))]
    exact ec
end

/-! ### rules -/
def tNIn (P : Program) (w : World) (f : Bool → Bool) (ty td : TE) : TE := fun σ H Q => ty σ H fun y H1 => td σ H1 fun x H2 =>
  ∃ a b k kvs, x = .ref a ∧ y = .ref b ∧ RkAt P w H2 a kvs ∧ NAt H2 b k ∧ Q (.bl (f (getN kvs k).isSome)) H2
def tNGet (P : Program) (w : World) (td ty : TE) : TE := fun σ H Q => td σ H fun x H1 => ty σ H1 fun y H2 =>
  ∃ a b k kvs v, x = .ref a ∧ y = .ref b ∧ RkAt P w H2 a kvs ∧ NAt H2 b k ∧ getN kvs k = some v ∧ Q (.int v) H2
def tNGet1 (P : Program) (w : World) (td ty : TE) : TE := fun σ H Q => td σ H fun x H1 => ∃ a kvs, x = .ref a ∧ RkAt P w H1 a kvs ∧ ty σ H1 fun y H2 =>
  ∃ b k, y = .ref b ∧ RkAt P w H2 a kvs ∧ NAt H2 b k ∧ Q (((getN kvs k).map V.int).getD .non) H2
def sNPut (P : Program) (w : World) (td ty tv : TE) : TS := fun D σ H => tv σ H fun v H1 => td σ H1 fun x H2 => ty σ H2 fun y H3 =>
  ∃ a b, x = .ref a ∧ y = .ref b ∧ RkPut P w H3 a b v fun H4 => D.nx σ H4
def tNNew (P : Program) (w : World) : TE := fun _ H Q => ∀ p o, H p = none → RkAt P w (upd H p o) p [] → Q (.ref p) (upd H p o)
section
variable {X : Cx} {o i e value : Expr} {pos pos' apos cpos : Pos} {td ty tv : TE}
theorem rk_typeIs {pins : List (Addr × Obj)} {σ : L2.St} {H : Hp} {s : Shared} {a : Addr} {kvs : List (NK × Int)} (I : Inv X pins σ H s) (r : RkAt X.prog X.w H a kvs) : s.TypeIs (.ref a) "dict" := by
  obtain ⟨xs, _, _, dd⟩ := r.keyed I.hok
  exact dd.typeIs
theorem pc_nin (hu : X.A.units + 64 < cLine) (hi : PE X i ty) (ho : PE X o td) : PC X .In i o (tNIn X.prog X.w (fun c => c) ty td) := by
  refine ⟨fun pins s σ H Q I h => ?_⟩
  refine thn (hi.run pins s σ H _ I h) fun iv s1 h1 => ?_
  obtain ⟨y, H1, I1, ry, q1⟩ := h1
  refine thn (ho.run pins s1 σ H1 _ I1 q1) fun u s2 h2 => ?_
  obtain ⟨x, H2, I2, rx, a, b, k, kvs, ex, ey, r, kb, q2⟩ := h2
  subst ex ey
  cases rx
  cases ry
  exact rk_in hu I2 r kb fun s3 I3 => ⟨.bl (getN kvs k).isSome, H2, I3, rfl, q2⟩
theorem pc_nnotin (hu : X.A.units + 64 < cLine) (hi : PE X i ty) (ho : PE X o td) : PC X .NotIn i o (tNIn X.prog X.w (fun c => !c) ty td) := by
  refine ⟨fun pins s σ H Q I h => ?_⟩
  refine thn (hi.run pins s σ H _ I h) fun iv s1 h1 => ?_
  obtain ⟨y, H1, I1, ry, q1⟩ := h1
  refine thn (ho.run pins s1 σ H1 _ I1 q1) fun u s2 h2 => ?_
  obtain ⟨x, H2, I2, rx, a, b, k, kvs, ex, ey, r, kb, q2⟩ := h2
  subst ex ey
  cases rx
  cases ry
  exact rk_notIn hu I2 r kb fun s3 I3 => ⟨.bl (!(getN kvs k).isSome), H2, I3, rfl, q2⟩
theorem pe_nget (hu : X.A.units + 64 < cLine) (ho : PE X o td) (hi : PE X i ty) (hs : NoSl i) : PE X (.Subscript o i pos) (tNGet X.prog X.w td ty) := by
  refine ⟨fun pins s σ H Q I h => ?_⟩
  refine subD_of PySem.F.slot_dict_getitem.lookup hs (thn (ho.run pins s σ H _ I h) fun u s1 h1 => ?_)
  obtain ⟨x, H1, I1, rx, q1⟩ := h1
  refine thn (hi.run pins s1 σ H1 _ I1 q1) fun iv s2 h2 => ?_
  obtain ⟨y, H2, I2, ry, a, b, k, kvs, v, ex, ey, r, kb, hv, q2⟩ := h2
  subst ex ey
  cases rx
  cases ry
  exact ⟨rk_typeIs I2 r, rk_item hu I2 r kb hv fun w' s3 I3 rw' => ⟨.int v, H2, I3, rw', q2⟩⟩
theorem ps_nput (hu : X.A.units + 64 < cLine) (ho : PE X o td) (hi : PE X i ty) (hv : PE X value tv) (hs : swapsWith value (some (.Subscript o i pos')) pos.line X.env = pure false) :
    PS X (.Assign [.Subscript o i pos'] value pos) (sNPut X.prog X.w td ty tv) := by
  refine ⟨fun pins s σ H D I h => ?_⟩
  refine wpAny_Assign_Subscript (thn (hv.run pins s σ H _ I h) fun r s1 h1 => ?_) hs
  obtain ⟨v, H1, I1, rv, q1⟩ := h1
  refine thn (ho.run pins s1 σ H1 _ I1 q1) fun u s2 h2 => ?_
  obtain ⟨x, H2, I2, rx, q2⟩ := h2
  refine thn (hi.run pins s2 σ H2 _ I2 q2) fun iv s3 h3 => ?_
  obtain ⟨y, H3, I3, ry, a, b, ex, ey, g⟩ := h3
  subst ex ey
  cases rx
  cases ry
  exact rk_set hu I3 g rv fun s4 H4 I4 q4 => ⟨σ, H4, I4, q4⟩
theorem pe_nnew : PE X (.Dict [] [] pos) (tNNew X.prog X.w) := by
  refine ⟨fun pins s σ H Q I h => ?_⟩
  have hn := I.hok.fresh (Nat.le_refl s.heap.objs.size)
  have big := I.big
  refine wpAny_Dict_empty ?_
  have raw : dNraw X.prog X.w s.heap.objs.size [] (s.heap.push { cls := .type "dict", data := .dict #[] }) := ⟨_, #[], 0, Heap.get?_push_size _ rfl, ⟨rfl, rfl, rfl⟩, rfl, rfl, List.nodup_nil⟩
  have new : ObjOk X.prog X.w (upd H s.heap.objs.size (dN X.prog X.w s.heap.objs.size [])) (s.heap.push { cls := .type "dict", data := .dict #[] }) s.heap.objs.size (dN X.prog X.w s.heap.objs.size []) :=
    ⟨raw, ⟨_, Heap.get?_push_size _ rfl⟩, fun h1 h2 ⟨o', es', ep', f1, f2⟩ st => ⟨o', es', ep', st _ f1, f2⟩⟩
  have J := I.laid (t' := s.toks) (fun _ _ q => Heap.get?_push_of_some _ q) (Nat.le_refl _) new
  exact ⟨.ref s.heap.objs.size, _, J, rfl, h _ _ hn ⟨Nat.zero_le _, beq_eq_false_iff_ne.mpr (Ne.symm (Nat.ne_of_lt big)), [], upd_same, .nil⟩⟩
theorem pe_nget1 (hu : X.A.units + 64 < cLine) (ho : PE X o td) (he : PE X e ty) (m : M1 X o "get" apos e cpos) : PE X (.Call (.Attribute o "get" apos) [e] [] cpos) (tNGet1 X.prog X.w td ty) := by
  refine ⟨fun pins s σ H Q I h => ?_⟩
  refine wpAny_Call_method m.base m.few m.line PySem.F.plainAttrs_dict PySem.F.slot_dict_get PySem.F.type_dict_get (thn (ho.run pins s σ H _ I h) fun u s1 h1 => ?_)
  obtain ⟨x, H1, I1, rx, a, kvs, ex, r, q1⟩ := h1
  subst ex
  cases rx
  obtain ⟨xs, _, _, dd⟩ := r.keyed I1.hok
  refine ⟨dd.typeIs, fun c hc => ?_, ?_⟩
  · cases hc
    obtain ⟨ob, _, _, g1, g2, _⟩ := dd
    exact ⟨ob, g1, g2.2.1⟩
  rw [m.trees]
  refine Calls.callWith_builtin rfl (Calls.evalArgs_plain (Calls.spliced_cons (thn (he.run pins s1 σ H1 _ I1 q1) fun iv s2 h2 => Calls.spliced_nil ?_)))
  obtain ⟨y, H2, I2, ry, b, k, ey, r2, kb, q2⟩ := h2
  subst ey
  cases ry
  exact rk_get hu I2 r2 kb fun w' s3 I3 rw' => ⟨_, H2, I3, rw', q2⟩
end
end CF

namespace CF
open PySem L2 PyProof.Rows
section
variable {X : Cx} {a b c d : Expr} {ta tb tc td : TE} {pos : Pos}
/-- four whole numbers in a row of comparisons, as a test -/
def tC4 (p q r : Int → Int → Bool) (ta tb tc td : TE) : TT := fun σ H Q => ta σ H fun x H1 => tb σ H1 fun y H2 => ∃ i j, x = .int i ∧ y = .int j ∧
  (if p i j = true then tc σ H2 fun z H3 => ∃ k, z = .int k ∧ (if q j k = true then td σ H3 fun u H4 => ∃ l, u = .int l ∧ Q (r k l) H4 else Q false H3) else Q false H2)
/-- how an operator compares whole numbers -/
def CmpI (X : Cx) (op : CmpOp) (p : Int → Int → Bool) : Prop := ∀ (i j : Int) (t u : Tok) (s : Shared) (Q : Value → Shared → Prop) (E : Value → Shared → Prop), Q (.bool (p i j)) s → wpAny (model X.prog X.w) X.A (compareOp op (.int i t) (.int j u)) Q E s
theorem ci_lt : CmpI X .Lt (fun i j => decide (i < j)) := fun _ _ _ _ _ _ _ q => lt_int q
theorem ci_le : CmpI X .LtE (fun i j => decide (i ≤ j)) := fun _ _ _ _ _ _ _ q => le_int q
theorem pt_chain4 {o1 o2 o3 : CmpOp} {p q r : Int → Int → Bool} (h1 : CmpI X o1 p) (h2 : CmpI X o2 q) (h3 : CmpI X o3 r) (ha : PE X a ta) (hb : PE X b tb) (hc : PE X c tc) (hd : PE X d td)
    (hm : lastMarks [o1, o2, o3] [b, c, d] = false := by with_unfolding_all rfl) : PT X (.Compare a [o1, o2, o3] [b, c, d] pos) (tC4 p q r ta tb tc td) := by
  refine ⟨fun pins s σ H Q I h => ?_⟩
  refine isTrue_chain (thn (ha.run pins s σ H _ I h) fun v s1 w1 => ?_) hm
  obtain ⟨x, H1, I1, r1, q1⟩ := w1
  refine test_link (thn (hb.run pins s1 σ H1 _ I1 q1) fun u s2 w2 => ?_)
  obtain ⟨y, H2, I2, r2, i, j, rfl, rfl, q2⟩ := w2
  obtain ⟨t1, rfl⟩ := r1
  obtain ⟨t2, rfl⟩ := r2
  refine h1 i j t1 t2 s2 _ _ (wpAny_truthy_bool ?_)
  cases hp : p i j with
  | false =>
    rw [hp] at q2
    exact ⟨H2, I2, q2⟩
  | true =>
    rw [hp] at q2
    refine test_link (thn (hc.run pins s2 σ H2 _ I2 q2) fun w s3 w3 => ?_)
    obtain ⟨z, H3, I3, r3, k, rfl, q3⟩ := w3
    obtain ⟨t3, rfl⟩ := r3
    refine h2 j k t2 t3 s3 _ _ (wpAny_truthy_bool ?_)
    cases hq : q j k with
    | false =>
      rw [hq] at q3
      exact ⟨H3, I3, q3⟩
    | true =>
      rw [hq] at q3
      refine test_last (thn (hd.run pins s3 σ H3 _ I3 q3) fun w s4 w4 => ?_)
      obtain ⟨z, H4, I4, r4, l, rfl, q4⟩ := w4
      obtain ⟨t4, rfl⟩ := r4
      exact h3 k l t3 t4 s4 _ _ (wpAny_truthy_bool ⟨H4, I4, q4⟩)

/-- (a, b) >= (c, d) -/
def geP (p q : Int × Int) : Bool := if p.1 = q.1 then decide (q.2 ≤ p.2) else decide (q.1 ≤ p.1)
def rGeP (K : PySem.W.Frag) : R2 := fun x y H Q => ∃ (a b : Addr) (p q : Int × Int), x = .ref a ∧ y = .ref b ∧ SqT K H a [.int p.1, .int p.2] ∧ SqT K H b [.int q.1, .int q.2] ∧ Q (.bl (geP p q)) H
theorem op_geP (hu : X.A.units < cLine) : OpR X (compareOp .GtE) (rGeP X.K) := by
  intro pins s σ H x y v u Q I rx ry h
  obtain ⟨a, b, p, q, rfl, rfl, ha, hb, qq⟩ := h
  cases rx
  cases ry
  obtain ⟨its, r1, p1, _⟩ := I.tuple ha
  obtain ⟨its2, r2, p2, _⟩ := I.tuple hb
  obtain ⟨u1, u2, rfl, ⟨t1, rfl⟩, ⟨t2, rfl⟩⟩ := vals2 r1
  obtain ⟨w1, w2, rfl, ⟨t3, rfl⟩, ⟨t4, rfl⟩⟩ := vals2 r2
  have R := Ob.RcOp.tuples_ge (A := X.A) (s := s) (e := fun j => if j = 0 then decide (p.1 = q.1) else decide (p.2 = q.2)) (r := fun j => if j = 0 then decide (q.1 ≤ p.1) else decide (q.2 ≤ p.2)) p1 p2 hu
    (fun j h1 h2 => by
      have hj : j = 0 ∨ j = 1 := by
        simp at h1
        omega
      rcases hj with rfl | rfl
      · have e : (p.1 == q.1) = decide (p.1 = q.1) := by rw [Bool.beq_eq_decide_eq]
        show SeqAt.EqAt X.A.in1 s (.int p.1 t1) (.int q.1 t3) (if 0 = 0 then decide (p.1 = q.1) else decide (p.2 = q.2))
        rw [if_pos rfl, ← e]
        exact SeqAt.EqAt.int_int _ _ _ _
      · have e : (p.2 == q.2) = decide (p.2 = q.2) := by rw [Bool.beq_eq_decide_eq]
        show SeqAt.EqAt X.A.in1 s (.int p.2 t2) (.int q.2 t4) (if 1 = 0 then decide (p.1 = q.1) else decide (p.2 = q.2))
        rw [if_neg (by decide), ← e]
        exact SeqAt.EqAt.int_int _ _ _ _)
    (fun j h1 h2 _ => by
      have hj : j = 0 ∨ j = 1 := by
        simp at h1
        omega
      rcases hj with rfl | rfl
      · exact Ob.RcOp.ge_int _ _ _ _
      · exact Ob.RcOp.ge_int _ _ _ _)
  refine R X.prog X.w X.xe (EP X pins σ Q) ⟨.bl (geP p q), H, I, ?_, qq⟩
  show Value.bool _ = Value.bool _
  congr 1
  show (if (if 0 = 0 then decide (p.1 = q.1) else decide (p.2 = q.2)) = true then (if (if 1 = 0 then decide (p.1 = q.1) else decide (p.2 = q.2)) = true then decide (2 ≥ 2) else _) else _) = geP p q
  unfold geP
  by_cases e1 : p.1 = q.1
  · by_cases e2 : p.2 = q.2
    · simp [e1, e2]
    · simp [e1, e2]
  · simp [e1]
end
end CF

namespace CF
open PySem L2 PyProof.Rows
/-- the values ys are pairs of whole numbers: ps -/
abbrev PrsV (H : Hp) : List V → List (Int × Int) → Prop := Paired fun y p => ∃ t, y = V.ref t ∧ H t = some (.tup [.int p.1, .int p.2])
theorem PrsV.ext {H H' : Hp} {ys : List V} {ps : List (Int × Int)} (h : PrsV H ys ps) (e : ∀ b o, H b = some o → H' b = some o) : PrsV H' ys ps :=
  Paired.mapP h fun _ _ ⟨t, a, b⟩ => ⟨t, a, e _ _ b⟩
/-- which pair stands there -/
def kP (H : Hp) : V → Int × Int
  | .ref t => match H t with
    | some (.tup [.int i, .int j]) => (i, j)
    | _ => (0, 0)
  | _ => (0, 0)
theorem kP_at {H : Hp} {t : Addr} {p : Int × Int} (h : H t = some (.tup [.int p.1, .int p.2])) : kP H (.ref t) = p := by
  show (match H t with | some (.tup [.int i, .int j]) => (i, j) | _ => (0, 0)) = p
  rw [h]
theorem PrsV.map {H : Hp} {ys : List V} {ps : List (Int × Int)} (h : PrsV H ys ps) : ps = ys.map (kP H) := by
  induction h with
  | nil => rfl
  | @cons y p ys ps hh t ih =>
    obtain ⟨a, rfl, e⟩ := hh
    rw [List.map_cons, kP_at e, ← ih]
theorem PrsV.mem {H : Hp} {ys : List V} {ps : List (Int × Int)} (h : PrsV H ys ps) : ∀ y ∈ ys, ∃ t, y = V.ref t ∧ H t = some (.tup [.int (kP H y).1, .int (kP H y).2]) := by
  induction h with
  | nil => intro y hy; cases hy
  | @cons y p ys ps hh t ih =>
    intro z hz
    rcases List.mem_cons.mp hz with e | hz
    · subst e
      obtain ⟨a, rfl, e⟩ := hh
      exact ⟨a, rfl, by rw [kP_at e]; exact e⟩
    · exact ih z hz
theorem PrsV.of_mem {H : Hp} : ∀ {ys : List V}, (∀ y ∈ ys, ∃ t, y = V.ref t ∧ H t = some (.tup [.int (kP H y).1, .int (kP H y).2])) → PrsV H ys (ys.map (kP H))
  | [], _ => .nil
  | y :: ys, h => .cons (h y List.mem_cons_self) (PrsV.of_mem fun z hz => h z (List.mem_cons_of_mem _ hz))
/-- rising, by the first, then by the second -/
abbrev SrtP (ps : List (Int × Int)) : Prop := SrtO.Srtd SrtO.lexB ps
section
variable {X : Cx}
/-- sorted of a list of pairs -/
def rSrtL (K : PySem.W.Frag) : List V → Hp → VK → Prop := fun vs H Q => ∃ (a : Addr) (xs : List V) (ps : List (Int × Int)), vs = [V.ref a] ∧ SqL K H a xs ∧ PrsV H xs ps ∧
  ∀ ys qs p, SrtP qs → qs.Perm ps → PrsV H ys qs → H p = none → Q (.ref p) (upd H p (.lst ys))
theorem cr_srtL : CallR X (.builtin "sorted") (rSrtL X.K) := by
  intro pins s σ H vs us Q I r h
  obtain ⟨a, xs, ps, ev, hs, hp, q⟩ := h
  refine cr_sortedPO pins s σ H vs us Q I r ⟨a, xs, kP H, ev, hs, hp.mem, fun ys p h1 h2 h3 => ?_⟩
  refine q ys (ys.map (kP H)) p (SrtO.srtd_map (lt := SrtO.lexB) (f := kP H) h1) ?_ ?_ h3
  · rw [hp.map]
    exact h2.perm.map _
  · exact PrsV.of_mem fun y hy => hp.mem y (h2.perm.mem_iff.mp hy)
/-- a key of two whole numbers -/
def kyP (p : Int × Int) : List Key := [Sum.inl p.1, Sum.inl p.2]
/-- sorted of a dict whose keys are pairs -/
def rSrtD : List V → Hp → VK → Prop := fun vs H Q => ∃ (a : Addr) (kvs : List (List Key × V)) (ps : List (Int × Int)), vs = [V.ref a] ∧ Rd H a (.dT kvs) ∧ kvs.map (·.1) = ps.map kyP ∧
  ∀ ys qs p, SrtP qs → qs.Perm ps → PrsV H ys qs → H p = none → Q (.ref p) (upd H p (.lst ys))
theorem KT.prs {H : Hp} {kvs : List (List Key × V)} {xs : List (List Key × Addr × Value)} (r : KT H kvs xs) : ∀ {ps : List (Int × Int)}, kvs.map (·.1) = ps.map kyP → PrsV H (xs.map fun x => V.ref x.2.1) ps := by
  induction r with
  | nil =>
    intro ps e
    cases ps with
    | nil => exact .nil
    | cons _ _ => simp at e
  | @cons p q as bs hh t ih =>
    intro ps e
    cases ps with
    | nil => simp at e
    | cons z ps =>
      rw [List.map_cons, List.map_cons] at e
      injection e with e1 e2
      refine .cons ⟨q.2.1, rfl, ?_⟩ (ih e2)
      have := hh.2.1
      rw [e1] at this
      exact this
theorem cr_srtD (hcalm : X.calm = true) : CallR X (.builtin "sorted") rSrtD := by
  intro pins s σ H vs us Q I r h
  obtain ⟨a, kvs, ps, rfl, hd, hk, q⟩ := h
  obtain ⟨u, rfl, ru⟩ := vals1 r
  cases ru
  obtain ⟨z, lo, xs, rel, dd⟩ := dt_rd I.hok hd
  obtain ⟨o, es, ep, g1, g2, g3, g4, g5, g6⟩ := id dd
  have prs := KT.prs rel hk
  have hes : es.size = xs.length := by
    rw [← Array.length_toList, g4, List.length_map]
  have hxl : xs.length ≤ sizeLine := by
    rw [← Paired.length rel]
    exact z
  have raw : s.heap.DictRaw a es ep := ⟨o, g1, g2, g3⟩
  refine Calls.call_function_entry kind_sorted plain_sorted entry_sorted (args_sorted1 _) ?_
  unfold Builtin.«sorted»
  refine wpAny_bind (m := checkCount "sorted" 1 1 _) (wpAny_pure ?_)
  refine wpAny_bind (PySem.W.kdu_collect (A := X.A.in1) (KdlSrc.rawDict (es := es) (ep := ep) lo) (I.ok.hd hcalm) raw (by rw [hes]; exact hxl) fun h' tk acc hkp hacc => ?_)
  have hal : acc.toList = xs.map fun x => Value.ref x.2.1 := by
    refine List.ext_getElem? fun j => ?_
    cases e : acc.toList[j]? with
    | none =>
      have h1 := List.getElem?_eq_none_iff.mp e
      rw [Array.length_toList, hacc.1, hes] at h1
      rw [List.getElem?_eq_none_iff.mpr (by rw [List.length_map]; exact h1)]
    | some v =>
      obtain ⟨hj, ev⟩ := hacc.2 j v (by rw [← Array.getElem?_toList]; exact e)
      subst ev
      have h2 : es.toList[j]? = some es[j] := by
        rw [Array.getElem?_toList]
        exact Array.getElem?_eq_getElem hj
      rw [g4, List.getElem?_map] at h2
      obtain ⟨x, hx, ex⟩ := Option.map_eq_some_iff.mp h2
      rw [List.getElem?_map, hx, ← ex]
      rfl
  have I1 : Inv X pins σ H { s with heap := h', toks := tk } := I.kept hkp
  have hlen : acc.toList.length ≤ sizeLine := by
    rw [hal, List.length_map]
    exact hxl
  refine wpAny_bind (wpAny_newList ?_ hlen)
  have hoL : (h'.push (seqObj "list" acc.toList.toArray 0)).get? h'.objs.size = some (seqObj "list" acc.toList.toArray 0) := Heap.get?_push_size _ rfl
  have keep : ∀ b o, h'.get? b = some o → b ≠ h'.objs.size ∧ (h'.push (seqObj "list" acc.toList.toArray 0)).get? b = some o := fun b o e => ⟨Nat.ne_of_lt (Heap.lt_size e), Heap.get?_push_of_some _ e⟩
  -- every item is a pair
  have hback : ∀ v ∈ acc.toList, ∃ t, v = Value.ref t ∧ H t = some (.tup [.int (kP H (backV v)).1, .int (kP H (backV v)).2]) := fun v hv => by
    rw [hal] at hv
    obtain ⟨x, hx, rfl⟩ := List.mem_map.mp hv
    obtain ⟨t, e, ht⟩ := prs.mem (V.ref x.2.1) (List.mem_map.mpr ⟨x, hx, rfl⟩)
    cases e
    exact ⟨_, rfl, ht⟩
  have hpair : ∀ v ∈ acc.toList, Srt.IsPair h' v (kP H (backV v)).1 (kP H (backV v)).2 := fun v hv => by
    obtain ⟨t, rfl, ht⟩ := hback v hv
    obtain ⟨_, its2, r2, o, ho, hc, n, hd⟩ := I1.hok _ _ ht
    obtain ⟨u1, u2, rfl, ⟨t1, rfl⟩, ⟨t2, rfl⟩⟩ := vals2 r2
    exact ⟨t, o, t1, t2, n, rfl, ho, hc, hd⟩
  show wpAny _ _ _ _ _ { s with heap := h'.push (seqObj "list" acc.toList.toArray 0), toks := tk }
  refine wpAny_bind (wpAny_holding (wpAny_call_entry slot_list_sort ⟨_, hoL, rfl⟩ entry_list_sort
    (SrtO.list_sort_ord (s := { s with heap := h'.push (seqObj "list" acc.toList.toArray 0), toks := tk }) (SrtO.swo_lex fun v => kP H (backV v)) hoL hlen (fun h2 => ?_) fun out hs hb => ⟨_, rfl, ?_⟩) (args_list_sort _)))
  · refine SrtO.pairs_sortableO (s := { s with heap := h'.push (seqObj "list" acc.toList.toArray 0), toks := tk }) (by omega) (fun v hm => (hpair v hm).keeps fun b o e _ => (keep b o e).2) fun o e => ?_
    have e' : some o = some (seqObj "list" acc.toList.toArray 0) := e.symm.trans hoL
    cases e'
    intro c
    exact absurd (Value.type.inj c) (by decide)
  · obtain ⟨e', he'⟩ := sortedHeap_at (vs := acc.toList) (out := out.toArray) hoL
    have hrefs : ∀ u ∈ out, ∃ a, u = Value.ref a := fun u hu => by
      obtain ⟨t, e, _⟩ := hback u (hb.perm.mem_iff.mp hu)
      exact ⟨t, e⟩
    have new : ObjOk X.prog X.w (upd H h'.objs.size (.lst (out.map backV))) (sortedHeap (h'.push (seqObj "list" acc.toList.toArray 0)) h'.objs.size acc.toList out.toArray) h'.objs.size (.lst (out.map backV)) :=
      ⟨by rw [List.length_map, hb.len]; exact hlen, out, e', vals_back hrefs, he'⟩
    refine wpAny_pure ⟨_, rfl, .ref h'.objs.size, upd H h'.objs.size (.lst (out.map backV)), I1.laid (t' := tk) (fun b u e => ?_) (Nat.le_refl _) new, rfl, ?_⟩
    · have hlt : b < h'.objs.size := Heap.lt_size e
      rw [sortedHeap_old (Nat.ne_of_lt hlt) (by rw [size_push']; exact Nat.lt_succ_of_lt hlt)]
      exact Heap.get?_push_of_some _ e
    · refine q _ ((out.map backV).map (kP H)) _ ?_ ?_ ?_ (I1.hok.fresh (Nat.le_refl _))
      · rw [List.map_map]
        exact SrtO.srtd_map (lt := SrtO.lexB) (f := kP H ∘ backV) hs
      · rw [prs.map]
        have e1 : (xs.map fun x => V.ref x.2.1) = acc.toList.map backV := by
          rw [hal, List.map_map]
          rfl
        rw [e1]
        exact (hb.perm.map _).map _
      · refine PrsV.of_mem fun y hy => ?_
        obtain ⟨v, hv, rfl⟩ := List.mem_map.mp hy
        obtain ⟨t, rfl, ht⟩ := hback v (hb.perm.mem_iff.mp hv)
        exact ⟨t, rfl, ht⟩
end
end CF

/-! Views: what of the heap stands still for good. -/
namespace CF
open PySem L2 PyProof.Rows
/-- from the view F0 of H0 to the view F of H: nothing that was tracked is lost, what is new in the view is new in the heap -/
structure Grow (F0 H0 F H : Hp) : Prop where
  ss : Same F0 F
  sub : Same F H
  keep : Same H0 H
  new : ∀ b o, F b = some o → F0 b = some o ∨ H0 b = none ∨ ∃ xs, o = .tup xs
theorem Grow.refl {F H : Hp} (s : Same F H) : Grow F H F H := ⟨Same.refl _, s, Same.refl _, fun _ _ h => .inl h⟩
theorem Grow.trans {F0 H0 F1 H1 F2 H2 : Hp} (a : Grow F0 H0 F1 H1) (b : Grow F1 H1 F2 H2) : Grow F0 H0 F2 H2 :=
  ⟨a.ss.trans b.ss, b.sub, a.keep.trans b.keep, fun c o h => by
    rcases b.new c o h with h | h | h
    · exact a.new c o h
    · exact .inr (.inl (a.keep.free h))
    · exact .inr (.inr h)⟩
theorem same_new {H : Hp} {p : Addr} (o : HO) (h : H p = none) : Same H (upd H p o) := fun b u e => by
  rw [upd_ne (ne_of_none e h)]
  exact e
section
variable {F0 H0 F H F' H' : Hp} {p l : Addr} {o u : HO}
/-- a new thing that stands still -/
theorem Grow.alloc (g : Grow F0 H0 F H) (o : HO) (h : H p = none) : Grow F0 H0 (upd F p o) (upd H p o) := by
  have hF : F p = none := g.sub.free h
  refine ⟨g.ss.trans (same_new o hF), fun b v e => ?_, g.keep.trans (same_new o h), fun b v e => ?_⟩
  · by_cases c : b = p
    · subst c
      rw [upd_same] at e ⊢
      exact e
    · rw [upd_ne c] at e ⊢
      exact g.sub b v e
  · by_cases c : b = p
    · subst c
      exact .inr (.inl (g.keep.free h))
    · rw [upd_ne c] at e
      exact g.new b v e
/-- a new thing that may change -/
theorem Grow.hid (g : Grow F0 H0 F H) (o : HO) (h : H p = none) : Grow F0 H0 F (upd H p o) :=
  ⟨g.ss, g.sub.trans (same_new o h), g.keep.trans (same_new o h), g.new⟩
/-- it changes -/
theorem Grow.mut (g : Grow F0 H0 F H) (o : HO) (h : F l = none) (h0 : H0 l = none) : Grow F0 H0 F (upd H l o) := by
  refine ⟨g.ss, fun b v e => ?_, fun b v e => ?_, g.new⟩
  · rw [upd_ne (ne_of_none e h)]
    exact g.sub b v e
  · rw [upd_ne (ne_of_none e h0)]
    exact g.keep b v e
/-- from now on it stands still -/
theorem Grow.fix (g : Grow F0 H0 F H) (h : H l = some o) (hF : F l = none) (h0 : H0 l = none) : Grow F0 H0 (upd F l o) H := by
  refine ⟨g.ss.trans (same_new o hF), fun b v e => ?_, g.keep, fun b v e => ?_⟩
  · by_cases c : b = l
    · subst c
      rw [upd_same] at e
      rw [← e]
      exact h
    · rw [upd_ne c] at e
      exact g.sub b v e
  · by_cases c : b = l
    · subst c
      exact .inr (.inl h0)
    · rw [upd_ne c] at e
      exact g.new b v e
/-- a tuple of the heap may come into the view: it never changes -/
theorem Grow.tupl {xs : List V} (g : Grow F0 H0 F H) (h : H p = some (.tup xs)) : Grow F0 H0 (upd F p (.tup xs)) H := by
  refine ⟨fun b v e => ?_, fun b v e => ?_, g.keep, fun b v e => ?_⟩
  · by_cases c : b = p
    · subst c
      have := g.sub _ _ (g.ss _ _ e)
      rw [h] at this
      rw [upd_same, this]
    · rw [upd_ne c]
      exact g.ss b v e
  · by_cases c : b = p
    · subst c
      rw [upd_same] at e
      rw [← e]
      exact h
    · rw [upd_ne c] at e
      exact g.sub b v e
  · by_cases c : b = p
    · subst c
      rw [upd_same] at e
      exact .inr (.inr ⟨xs, (Option.some.inj e).symm⟩)
    · rw [upd_ne c] at e
      exact g.new b v e
theorem Grow.tupl_ss {xs : List V} (s : Same F H) (h : H p = some (.tup xs)) : Same F (upd F p (.tup xs)) := fun b v e => by
  by_cases c : b = p
  · subst c
    have := s _ _ e
    rw [h] at this
    rw [upd_same, this]
  · rw [upd_ne c]
    exact e
/-- what is out of the view, and no tuple, stays out of it -/
theorem Grow.out (g : Grow F H F' H') (h : H l = some o) (hF : F l = none) (ho : ∀ xs, o ≠ .tup xs := by intro xs z; cases z) : F' l = none := by
  cases e : F' l with
  | none => rfl
  | some v =>
    rcases g.new l v e with c | c | ⟨xs, c⟩
    · rw [hF] at c; cases c
    · rw [h] at c; cases c
    · have h1 := g.keep _ _ h
      have h2 := g.sub _ _ e
      rw [h1] at h2
      exact (ho xs (by rw [← c]; exact Option.some.inj h2)).elim
end

/-! ### what a value is, in a view -/
def nv (k : Nat) : V := .int (k : Int)
/-- a list of things -/
def LstOf {α : Type} (R : Hp → V → α → Prop) (F : Hp) (v : V) (xs : List α) : Prop := ∃ a ys, v = .ref a ∧ F a = some (.lst ys) ∧ Paired (R F) ys xs
/-- places: a list of them, a tuple of them, a list of lists, a list of tuples -/
def NatL (F : Hp) (v : V) (ks : List Nat) : Prop := ∃ a, v = .ref a ∧ F a = some (.lst (ks.map nv))
def NatT (F : Hp) (v : V) (ks : List Nat) : Prop := ∃ a, v = .ref a ∧ F a = some (.tup (ks.map nv))
def PairT (F : Hp) (v : V) (p : Int × Int) : Prop := ∃ t, v = .ref t ∧ F t = some (.tup [.int p.1, .int p.2])
def PairL (F : Hp) (v : V) (ps : List (Int × Int)) : Prop := LstOf PairT F v ps
def NatLL (F : Hp) (v : V) (l : List (List Nat)) : Prop := LstOf NatL F v l
def NatTL (F : Hp) (v : V) (l : List (List Nat)) : Prop := LstOf NatT F v l
section
variable {F F' : Hp} {v : V} (e : Same F F')
include e
theorem NatL.ext {ks : List Nat} (h : NatL F v ks) : NatL F' v ks := by
  obtain ⟨a, h1, h2⟩ := h
  exact ⟨a, h1, e _ _ h2⟩
theorem NatT.ext {ks : List Nat} (h : NatT F v ks) : NatT F' v ks := by
  obtain ⟨a, h1, h2⟩ := h
  exact ⟨a, h1, e _ _ h2⟩
theorem PairT.ext {p : Int × Int} (h : PairT F v p) : PairT F' v p := by
  obtain ⟨a, h1, h2⟩ := h
  exact ⟨a, h1, e _ _ h2⟩
omit e in
theorem paired_ext {α : Type} {R : Hp → V → α → Prop} (hR : ∀ v x, R F v x → R F' v x) {ys : List V} {xs : List α} (h : Paired (R F) ys xs) : Paired (R F') ys xs := Paired.mapP h fun _ _ z => hR _ _ z
theorem LstOf.ext {α : Type} {R : Hp → V → α → Prop} (hR : ∀ v x, R F v x → R F' v x) {xs : List α} (h : LstOf R F v xs) : LstOf R F' v xs := by
  obtain ⟨a, ys, h1, h2, h3⟩ := h
  exact ⟨a, ys, h1, e _ _ h2, paired_ext hR h3⟩
theorem PairL.ext {ps : List (Int × Int)} (h : PairL F v ps) : PairL F' v ps := LstOf.ext e (fun _ _ => PairT.ext e) h
theorem NatLL.ext {l : List (List Nat)} (h : NatLL F v l) : NatLL F' v l := LstOf.ext e (fun _ _ => NatL.ext e) h
theorem NatTL.ext {l : List (List Nat)} (h : NatTL F v l) : NatTL F' v l := LstOf.ext e (fun _ _ => NatT.ext e) h
end
theorem paired_get {α β : Type} {R : α → β → Prop} {ys : List α} {xs : List β} (h : Paired R ys xs) : ∀ {i : Nat} {x : β}, xs[i]? = some x → ∃ y, ys[i]? = some y ∧ R y x := by
  induction h with
  | nil =>
    intro i x e
    simp at e
  | cons r t ih =>
    intro i x e
    cases i with
    | zero =>
      simp at e
      subst e
      exact ⟨_, rfl, r⟩
    | succ i =>
      simp at e
      obtain ⟨y, h1, h2⟩ := ih e
      exact ⟨y, by simpa using h1, h2⟩
theorem paired_get' {α β : Type} {R : α → β → Prop} {ys : List α} {xs : List β} (h : Paired R ys xs) : ∀ {i : Nat} {y : α}, ys[i]? = some y → ∃ x, xs[i]? = some x ∧ R y x := by
  induction h with
  | nil =>
    intro i x e
    simp at e
  | cons r t ih =>
    intro i x e
    cases i with
    | zero =>
      simp at e
      subst e
      exact ⟨_, rfl, r⟩
    | succ i =>
      simp at e
      obtain ⟨y, h1, h2⟩ := ih e
      exact ⟨y, by simpa using h1, h2⟩
theorem paired_app {α β : Type} {R : α → β → Prop} {ys ys' : List α} {xs xs' : List β} (h : Paired R ys xs) (h' : Paired R ys' xs') : Paired R (ys ++ ys') (xs ++ xs') := by
  induction h with
  | nil => exact h'
  | cons r t ih => exact .cons r ih
theorem paired_len {α β : Type} {R : α → β → Prop} {ys : List α} {xs : List β} (h : Paired R ys xs) : ys.length = xs.length := by
  induction h with
  | nil => rfl
  | cons r t ih => simp [ih]
theorem prsV_of {F : Hp} {ys : List V} {ps : List (Int × Int)} (h : Paired (PairT F) ys ps) : PrsV F ys ps := h
theorem getElem?_map_nv {ks : List Nat} {i : Nat} {v : V} (h : (ks.map nv)[i]? = some v) : ∃ k, ks[i]? = some k ∧ v = nv k := by
  rw [List.getElem?_map] at h
  cases e : ks[i]? with
  | none => rw [e] at h; cases h
  | some k => rw [e] at h; exact ⟨k, rfl, (Option.some.inj h).symm⟩

/-! ### tests -/
theorem iteDT {p A B : Prop} [Decidable p] (h : p) (k : A) : if decide p = true then A else B := by
  rw [decide_eq_true h]
  exact iteT k
theorem iteDF {p A B : Prop} [Decidable p] (h : ¬ p) (k : B) : if decide p = true then A else B := by
  rw [decide_eq_false h]
  exact iteF k
theorem iteNT {p A B : Prop} [Decidable p] (h : ¬ p) (k : A) : if (!decide p) = true then A else B := by
  rw [decide_eq_false h]
  exact iteT k
theorem iteNF {p A B : Prop} [Decidable p] (h : p) (k : B) : if (!decide p) = true then A else B := by
  rw [decide_eq_true h]
  exact iteF k
theorem iteBT {b : Bool} {A B : Prop} (h : b = true) (k : A) : if b = true then A else B := by
  rw [h]
  exact iteT k
theorem iteBF {b : Bool} {A B : Prop} (h : b = false) (k : B) : if b = true then A else B := by
  rw [h]
  exact iteF k
theorem iteMT {b : Bool} {A B : Prop} (h : b = false) (k : A) : if (!b) = true then A else B := by
  rw [h]
  exact iteT k
theorem iteMF {b : Bool} {A B : Prop} (h : b = true) (k : B) : if (!b) = true then A else B := by
  rw [h]
  exact iteF k

/-! ### pairs as data -/
def dPr (p : Int × Int) : PyData := .tuple [.int p.1, .int p.2]
theorem dPr_eqv (p q : Int × Int) : PyData.eqv (dPr p) (dPr q) = decide (p = q) := by
  obtain ⟨a, b⟩ := p
  obtain ⟨c, d⟩ := q
  simp [dPr, PyData.eqv, PyData.eqvAll, Prod.mk.injEq, Bool.beq_eq_decide_eq, Bool.decide_and]
theorem dPr_shaped (p : Int × Int) : SeqAt.shaped (dPr p) = true := by
  simp [SeqAt.shaped, dPr, PyData.canLay0, PyData.canLayAll0, PyData.depth, PyData.depthAll]
theorem dPrs_lay : ∀ ps : List (Int × Int), PyData.canLayAll0 (ps.map dPr) = true
  | [] => rfl
  | p :: ps => by
    rw [List.map_cons, PyData.canLayAll0, dPrs_lay ps]
    simp [dPr, PyData.canLay0, PyData.canLayAll0]
theorem dPrs_depth : ∀ ps : List (Int × Int), PyData.depthAll (ps.map dPr) ≤ 1
  | [] => by simp [PyData.depthAll]
  | p :: ps => by
    have ih := dPrs_depth ps
    rw [List.map_cons, PyData.depthAll]
    simp [dPr, PyData.depth, PyData.depthAll]
    omega
theorem dPrs_shaped (ps : List (Int × Int)) : SeqAt.shaped (.list (ps.map dPr)) = true := by
  have h1 := dPrs_lay ps
  have h2 := dPrs_depth ps
  simp only [SeqAt.shaped, PyData.canLay0, PyData.depth, h1, Bool.true_and]
  exact decide_eq_true (by omega)
theorem PairT.dp {K : PySem.W.Frag} {H : Hp} {v : V} {p : Int × Int} (h : PairT H v p) : Dp K H v (dPr p) := by
  obtain ⟨t, rfl, e⟩ := h
  exact .tup (SqT.of e) (.cons (.int _) (.cons (.int _) .nil))
theorem prs_dp {K : PySem.W.Frag} {H : Hp} {ys : List V} {ps : List (Int × Int)} (h : Paired (PairT H) ys ps) : DpAll K H ys (ps.map dPr) := by
  induction h with
  | nil => exact .nil
  | cons r t ih => exact .cons r.dp ih
theorem PairL.dp {K : PySem.W.Frag} {H : Hp} {v : V} {ps : List (Int × Int)} (h : PairL H v ps) : Dp K H v (.list (ps.map dPr)) := by
  obtain ⟨a, ys, rfl, e, r⟩ := h
  exact .lst (SqL.of e) (prs_dp r)
end CF

namespace CF
open PySem L2 PyProof.Rows
/-! ### which places are reached: the mirror -/
def addR (R : List Int) (x : Int) : List Int := if x ∈ R then R else R ++ [x]
def rStep (R : List Int) (d : Int × Int) : List Int := if d.1 ∈ R ∨ d.2 ∈ R then addR (addR R d.1) d.2 else R
def rLap (ds : List (Int × Int)) (R : List Int) : List Int := ds.foldl rStep R
def rLaps (ds : List (Int × Int)) : Nat → List Int
  | 0 => [0]
  | k + 1 => rLap ds (rLaps ds k)
def reachedB (n : Nat) (ds : List (Int × Int)) : Bool := (rLaps ds n).length == n
/-- the dict: each of these with True -/
def rDict (R : List Int) : List (Key × V) := R.map fun x => ((Sum.inl x : Key), V.bl true)
theorem rDict_val (x : Int) : ∀ R : List Int, valV (rDict R) (Sum.inl x : Key) = if x ∈ R then some (.bl true) else none
  | [] => rfl
  | y :: R => by
    have ih := rDict_val x R
    unfold rDict at ih ⊢
    rw [List.map_cons]
    by_cases e : y = x
    · subst e
      rw [valV_pos rfl, if_pos List.mem_cons_self]
    · have e' : ¬ (Sum.inl y : Key) = Sum.inl x := fun z => e (Sum.inl.inj z)
      rw [valV_neg e', ih]
      have : (x ∈ y :: R) ↔ x ∈ R := by
        rw [List.mem_cons]
        constructor
        · rintro (h | h)
          · exact absurd h.symm e
          · exact h
        · exact .inr
      by_cases c : x ∈ R
      · rw [if_pos c, if_pos (this.mpr c)]
      · rw [if_neg c, if_neg (fun z => c (this.mp z))]
theorem rDict_isSome (x : Int) (R : List Int) : (valV (rDict R) (Sum.inl x : Key)).isSome = decide (x ∈ R) := by
  rw [rDict_val]
  by_cases c : x ∈ R
  · rw [if_pos c, decide_eq_true c]
    rfl
  · rw [if_neg c, decide_eq_false c]
    rfl
theorem rDict_put (x : Int) (R : List Int) : putK (rDict R) (Sum.inl x : Key) (.bl true) = rDict (addR R x) := by
  unfold putK addR
  rw [valV_any, rDict_isSome]
  by_cases c : x ∈ R
  · rw [if_pos c, if_pos (decide_eq_true c)]
    unfold rDict
    rw [List.map_map]
    refine List.map_congr_left fun y _ => ?_
    show (if (Sum.inl y : Key) = Sum.inl x then _ else _) = _
    split <;> rfl
  · rw [if_neg c, if_neg (by simpa using c)]
    unfold rDict
    rw [List.map_append]
    rfl
theorem rDict_length (R : List Int) : (rDict R).length = R.length := List.length_map ..
theorem addR_length (R : List Int) (x : Int) : (addR R x).length ≤ R.length + 1 := by
  unfold addR
  split
  · omega
  · simp
theorem rStep_length (R : List Int) (d : Int × Int) : (rStep R d).length ≤ R.length + 2 := by
  unfold rStep
  split
  · have h1 := addR_length R d.1
    have h2 := addR_length (addR R d.1) d.2
    omega
  · omega
theorem foldl_rStep_length : ∀ (ds : List (Int × Int)) (R : List Int), (ds.foldl rStep R).length ≤ R.length + 2 * ds.length
  | [], R => by simp
  | d :: ds, R => by
    have h1 := foldl_rStep_length ds (rStep R d)
    have h2 := rStep_length R d
    rw [List.foldl_cons, List.length_cons]
    omega
theorem rLaps_length (ds : List (Int × Int)) : ∀ k, (rLaps ds k).length ≤ 1 + 2 * ds.length * k
  | 0 => by simp [rLaps]
  | k + 1 => by
    have h1 := rLaps_length ds k
    have h2 := foldl_rStep_length ds (rLaps ds k)
    show (rLap ds (rLaps ds k)).length ≤ _
    unfold rLap
    rw [Nat.mul_succ]
    omega
theorem take_snoc {α : Type} {l : List α} {i : Nat} {x : α} (h : l[i]? = some x) : l.take (i + 1) = l.take i ++ [x] := by
  rw [List.take_add_one, h]
  rfl
/-- the promise -/
def spReached : Sp := fun vs H Q _ => ∃ (F : Hp) (n : Nat) (v : V) (ds : List (Int × Int)), vs = [.int n, v] ∧ Same F H ∧ PairL F v ds ∧ n ≤ 100 ∧ ds.length ≤ 1000 ∧
  ∀ H', Grow F H F H' → Q (.bl (reachedB n ds)) H'
end CF

namespace CF
open PySem L2 PyProof.Rows
/-! ### exceptions: a class of the text, raised with a text -/
/-- what is known of an exception's class (x its name, C where it stands) -/
structure Exn (K : PySem.W.Frag) (mg : Str → Option Value) (x : Str) (C : Addr) : Prop where
  g : mg x = some (.ref C)
  xn : PySem.W.excIn K C ([.type "ValueError", .type "Exception", .type "BaseException", .type "object"] : List Value) "ValueError.__new__" = true
  kp : PySem.W.keepIn K (.ref C) = true
  b : PySem.W.subIn K (.ref C) (.type "BaseException") = some true
  t : PySem.W.typeIn K (.ref C) = some (.type "type")
section
variable {X : Cx} {x m : Str} {C : Addr} {W : WX} {j : Nat} {p p2 pos pos' : Pos}
/-- raise X('m') -/
theorem ps_rs (hc : X.calm = true) (tk : L2N.Takes X W) (T : Exn X.K X.mg x C) (hg : Gl X x) (hdb : (x == ("__debug__" : Str)) = false := by decide) :
    PS X (.Raise (some (.Call (.Name x p) [.Constant (.str m) j p2] [] pos)) none pos') (fun _ σ H => W (.ref C) none σ H) :=
  L2N.ps_raise hc tk (L2N.pmk_own PySem.F.excBase_ValueError T.xn T.g T.kp (raises_own T.b T.t) hg hdb)
/-- nothing is let out -/
theorem passN : Passes (L2N.CX X.prog X.w) X E0 := fun _ _ _ _ _ _ _ h => by
  obtain ⟨_, _, _, _, _, _, _, _, _, _, _, _, z⟩ := h
  exact z.elim
theorem takesN0 : L2N.Takes X (fun _ _ _ _ => False) := fun _ _ h => by
  obtain ⟨_, _, _, _, _, _, _, _, _, _, _, _, _, _, _, _, z⟩ := h
  exact z.elim
end
section
variable {P : Program} {w : World} {K : PySem.W.Frag} {mg : Str → Option Value} {base : Heap}
/-- the context of a def's body, what it raises being told -/
abbrev cxN (P : Program) (w : World) (K : PySem.W.Frag) (mg : Str → Option Value) (base : Heap) (N : List Str) (qual : Str) (st : Stmt) (f : Addr) (cdv : Value) (A : Around) (outer : List Env) (s : Shared) (H : Hp) (E : XK) : Cx :=
  cxOf (L2N.CX P w) P w K mg base N qual (defScope st) f cdv A outer s H E
/-- a def that may raise -/
theorem Fun_okN {x qual : Str} {st : Stmt} {f : Addr} {fd : FuncData} {N ps : List Str} {k : Nat} {sp : Sp} (F : Fun K x qual st f fd) (S : FnScope N ps (defScope st)) (len : ∀ vs H Q E, sp vs H Q E → vs.length = ps.length)
    (body : ∀ (cdv : Value) (A : Around) (outer : List Env) (s : Shared) (H : Hp) (vs : List V) (Q : VK) (E : XK), Room k (A.deeper (envOfC qual (defScope st) s.heap.objs.size f cdv)) →
      L2N.Takes (cxN P w K mg base N qual st f cdv A outer s H E) (fun cls d _ H => E cls d H) → sp vs H Q E →
      ∃ t, PSs (cxN P w K mg base N qual st f cdv A outer s H E) (defBody st) t ∧ t { nx := fun _ H' => Q .non H', rt := Q } (start N vs) H) : FnOk P w K mg base (L2N.CX P w) (k + 1) f fd ps sp := by
  obtain ⟨oc, od, kV, doc, pm, an, cdv, ct, osl, rfl, lk, hcd⟩ := F.ex
  exact fn_of lk hcd S len fun A outer s H vs Q E hr hsp => body cdv A outer s H vs Q E hr (L2N.takes_of rfl rfl rfl rfl) hsp
/-- a def of the text, ready to be called -/
structure Cal (P : Program) (w : World) (K : PySem.W.Frag) (mg : Str → Option Value) (base : Heap) (k : Nat) (x : Str) (ps : List Str) (sp : Sp) : Prop where
  ex : ∃ (f : Addr) (fd : FuncData), FnOk P w K mg base (L2N.CX P w) k f fd ps sp ∧ mg x = some (.ref f) ∧ PySem.W.keepIn K (.ref f) = true ∧ Binds K fd ps []
end
/-- a def that raises nothing is one that may -/
theorem fn_toN {P : Program} {w : World} {K : PySem.W.Frag} {mg : Str → Option Value} {base : Heap} {k : Nat} {f : Addr} {fd : FuncData} {ps : List Str} {sp : Sp} (F : FnOk P w K mg base CX0 k f fd ps sp) : FnOk P w K mg base (L2N.CX P w) k f fd ps sp :=
  ⟨F.len, fun A outer s H args us vs Q E hr e0 hb r h => codeAny_mono (F.run A outer s H args us vs Q E hr e0 hb r h) fun res s' q => by
    cases res with
    | error e => exact q.elim
    | ok fl => cases fl <;> exact q⟩
section
variable {X : Cx} {x : Str} {k j : Nat} {ps : List Str} {sp : Sp} {p pos : Pos} {e : Expr} {es : List Expr} {ta : TA} {W : WX}
/-- f(e, ..) where nothing is raised -/
theorem pe_cl (c : Cal X.prog X.w X.K X.mg X.base k x ps sp) (hr : Room j X.A) (hg : Gl X x) (ha : PA X (e :: es) ta) (hk : k ≤ j := by decide) (hdb : (x == ("__debug__" : Str)) = false := by decide)
    (he : starEach (e :: es) X.env = (false, eval e X.env) :: starEach es X.env := by rfl) (hpl : (backTo pos (starEach es X.env)).any (·.1) = false := by rfl) :
    PE X (.Call (.Name x p) (e :: es) [] pos) (tCall sp [] E0 ta) := by
  obtain ⟨f, fd, F, hm, kp, b⟩ := c.ex
  exact pe_call F (hr.mono hk) hg hm kp b .nil passN ha hdb he hpl
/-- f(e, ..) whose exceptions are wished W -/
theorem pe_clS (c : Cal X.prog X.w X.K X.mg X.base k x ps sp) (hr : Room j X.A) (hg : Gl X x) (tk : L2N.Takes X W) (ha : PA X (e :: es) ta) (hk : k ≤ j := by decide) (hdb : (x == ("__debug__" : Str)) = false := by decide)
    (he : starEach (e :: es) X.env = (false, eval e X.env) :: starEach es X.env := by rfl) (hpl : (backTo pos (starEach es X.env)).any (·.1) = false := by rfl) :
    PE X (.Call (.Name x p) (e :: es) [] pos) (tCallS sp (WE W) ta) := by
  obtain ⟨f, fd, F, hm, kp, b⟩ := c.ex
  exact pe_callS F (hr.mono hk) hg hm kp b (fun σ => L2N.passAt tk σ) ha hdb he hpl
end
end CF
namespace CF
open PySem L2 PyProof.Rows
section
variable {X : Cx} {C f : Addr} {m : Str} {k j : Nat} {ps : List Str} {sp : Sp} {pos apos : Pos} {o e : Expr} {es : List Expr} {to : TE} {ta : TA} {W : WX}
/-- a method of the class at C, ready to be called -/
structure Met (P : Program) (w : World) (K : PySem.W.Frag) (mg : Str → Option Value) (base : Heap) (C : Addr) (k : Nat) (m : Str) (ps : List Str) (sp : Sp) : Prop where
  ex : ∃ (f : Addr) (fd : FuncData), FnOk P w K mg base (L2N.CX P w) k f fd ps sp ∧ Meth K C m f ∧ Binds K fd ps []
theorem pe_mt {pl : Sem Bool} (c : Met X.prog X.w X.K X.mg X.base C k m ps sp) (cl : Cls X.K C) (hr : Room j X.A) (ho : PE X o to) (ha : PA X (e :: es) ta) (hk : k ≤ j := by decide)
    (hst : starEach (e :: es) X.env = (false, eval e X.env) :: starEach es X.env := by rfl) (hpl : (backTo pos (starEach es X.env)).any (·.1) = false := by rfl)
    (ht : eval (.Call (.Attribute o m apos) (e :: es) [] pos) X.env = (do
      let ov ← eval o X.env
      standAt apos.atName
      let (f, first) ← holding [ov] (getMethod ov m pl)
      callWith pos f first (backTo pos (starEach (e :: es) X.env)) (backToKw pos (keywordEach [] X.env))) := by rfl) :
    PE X (.Call (.Attribute o m apos) (e :: es) [] pos) (tMeth C m sp [] E0 to ta) := by
  obtain ⟨f, fd, F, hm, b⟩ := c.ex
  exact pe_meth ho cl hm F (hr.mono hk) b .nil passN ha hst hpl ht
end

/-! ### a floor -/
theorem fk : ¬ (("places" : Str) = "doors") := by decide +kernel
theorem fk' : ¬ (("doors" : Str) = "places") := by decide +kernel
def flds (n : Int) (d : Addr) : List (Str × V) := putF "doors" (.ref d) (putF "places" (.int n) [])
theorem flds_places (n : Int) (d : Addr) : (flds n d).lookup ("places" : Str) = some (.int n) := by
  unfold flds
  rw [lookup_putF, if_neg fk, lookup_putF, if_pos rfl]
theorem flds_doors (n : Int) (d : Addr) : (flds n d).lookup ("doors" : Str) = some (.ref d) := by
  unfold flds
  rw [lookup_putF, if_pos rfl]
theorem flds_no (n : Int) (d : Addr) {m : Str} (h1 : ¬ m = "doors") (h2 : ¬ m = "places") : (flds n d).lookup m = none := by
  unfold flds
  rw [lookup_putF, if_neg h1, lookup_putF, if_neg h2]
  all_goals rfl
/-- v is a floor of n places with the doors ds -/
def FlrAt (C : Addr) (F : Hp) (v : V) (n : Nat) (ds : List (Int × Int)) : Prop := ∃ p dx d, v = .ref p ∧ F p = some (.ins C dx (flds n d)) ∧ PairL F (.ref d) ds
theorem FlrAt.ext {C : Addr} {F F' : Hp} {v : V} {n : Nat} {ds : List (Int × Int)} (e : Same F F') (h : FlrAt C F v n ds) : FlrAt C F' v n ds := by
  obtain ⟨p, dx, d, h1, h2, h3⟩ := h
  exact ⟨p, dx, d, h1, e _ _ h2, h3.ext e⟩
/-- what is known of the class Floor -/
structure FlrC (K : PySem.W.Frag) (mg : Str → Option Value) (C : Addr) : Prop where
  cl : Cls K C
  nP : NoAttr K C "places"
  nD : NoAttr K C "doors"
  g : mg "Floor" = some (.ref C)
/-! ### near: the mirror -/
def mnI (a b : Int) : Int := if b < a then b else a
def mxI (a b : Int) : Int := if b > a then b else a
def joinsB (ds : List (Int × Int)) (p q : Int) : Bool := decide (p = q) || decide ((mnI p q, mxI p q) ∈ ds)
def nearF (n : Nat) (ds : List (Int × Int)) (p : Nat) : List Nat := (List.range n).filter fun q => joinsB ds p q
theorem any_dPr (ds : List (Int × Int)) (p : Int × Int) : ((ds.map dPr).any fun z => PyData.eqv z (dPr p)) = decide (p ∈ ds) := by
  rw [List.any_map, Bool.eq_iff_iff, List.any_eq_true, decide_eq_true_eq]
  constructor
  · rintro ⟨x, hx, e⟩
    have e : PyData.eqv (dPr x) (dPr p) = true := e
    rw [dPr_eqv, decide_eq_true_eq] at e
    exact e ▸ hx
  · intro h
    refine ⟨p, h, ?_⟩
    show PyData.eqv (dPr p) (dPr p) = true
    rw [dPr_eqv]
    exact decide_eq_true rfl
def spJoins (C : Addr) : Sp := fun vs H Q _ => ∃ (F : Hp) (v : V) (n : Nat) (ds : List (Int × Int)) (p q : Int), vs = [v, .int p, .int q] ∧ Same F H ∧ FlrAt C F v n ds ∧
  ∀ H', Grow F H F H' → Q (.bl (joinsB ds p q)) H'
def spNear (C CN : Addr) : Sp := fun vs H Q E => ∃ (F : Hp) (v : V) (n : Nat) (ds : List (Int × Int)) (p : Int), vs = [v, .int p] ∧ Same F H ∧ FlrAt C F v n ds ∧ n ≤ 100 ∧
  ((0 ≤ p ∧ p < n) → ∀ F' H' u, Grow F H F' H' → NatL F' u (nearF n ds p.toNat) → (∃ a, u = .ref a ∧ H a = none) → Q u H') ∧ (¬ (0 ≤ p ∧ p < n) → ∀ H', Grow F H F H' → E (.ref CN) none H')
end CF

namespace CF
open PySem L2 PyProof.Rows
/-! ### comprehensions, in a view -/
/-- one turn: r is the new item, none where it is left out -/
def CStep (g : TG) (tt : TT) (te : TE) (vs : List Nat) (σ : L2.St) (x : V) (H : Hp) (Q : Option V → Hp → Prop) : Prop :=
  g x (wipe σ vs) H fun σ2 H2 => wipe σ2 vs = wipe σ vs ∧ tt σ2 H2 fun b H3 => if b = true then te σ2 H3 fun y H4 => Q (some y) H4 else Q none H3
def OptR {α : Type} (R : Hp → V → α → Prop) (F : Hp) : Option V → Option α → Prop
  | none, none => True
  | some y, some a => R F y a
  | _, _ => False
/-- what is made in the first i turns -/
def made {α : Type} (e : Nat → Option α) (i : Nat) : List α := (List.range i).filterMap e
theorem made_succ {α : Type} (e : Nat → Option α) (i : Nat) : made e (i + 1) = made e i ++ (match e i with | some a => [a] | none => []) := by
  unfold made
  rw [List.range_succ, List.filterMap_append]
  cases h : e i <;> simp [h]
theorem made_le {α : Type} (e : Nat → Option α) (i : Nat) : (made e i).length ≤ i := by
  have := List.length_filterMap_le e (List.range i)
  rw [List.length_range] at this
  exact this
/-- between two turns: the new list at D -/
def CInv {α : Type} (R : Hp → V → α → Prop) (e : Nat → Option α) (F1 H1 : Hp) (D : Addr) (i : Nat) (H : Hp) : Prop :=
  ∃ F acc, Grow F1 H1 F H ∧ F D = none ∧ H D = some (.lst acc) ∧ Paired (R F) acc (made e i)
section
variable {α : Type} {R : Hp → V → α → Prop} {e : Nat → Option α} {F1 H1 H : Hp} {D : Addr} {i : Nat} {g : TG} {tt : TT} {te : TE} {vs : List Nat} {σ : L2.St} {x : V} {n : Nat}
theorem CInv.start (hF : Same F1 H1) (hD : H1 D = none) : CInv R e F1 H1 D 0 (upd H1 D (.lst [])) :=
  ⟨F1, [], (Grow.refl hF).hid _ hD, hF.free hD, upd_same, .nil⟩
/-- a turn -/
theorem CInv.turn (hR : ∀ F F' v x, Same F F' → R F v x → R F' v x) (hD : H1 D = none) (hi : i < n) (hn : n < sizeLine) (c : CInv R e F1 H1 D i H)
    (step : ∀ F, Grow F1 H1 F H → F D = none → (∃ o, H D = some o) → ∀ Q : Option V → Hp → Prop, (∀ F' H' r, Grow F H F' H' → OptR R F' r (e i) → Q r H') → CStep g tt te vs σ x H Q) :
    g x (wipe σ vs) H fun σ2 H2 => wipe σ2 vs = wipe σ vs ∧ tt σ2 H2 fun b H3 =>
      if b = true then te σ2 H3 fun y H4 => ∃ acc, H4 D = some (.lst acc) ∧ acc.length < sizeLine ∧ CInv R e F1 H1 D (i + 1) (upd H4 D (.lst (acc ++ [y]))) else CInv R e F1 H1 D (i + 1) H3 := by
  obtain ⟨F, acc, G, hFD, hHD, hp⟩ := c
  refine step F G hFD ⟨_, hHD⟩ (fun r H4 => match r with
    | some y => ∃ acc, H4 D = some (.lst acc) ∧ acc.length < sizeLine ∧ CInv R e F1 H1 D (i + 1) (upd H4 D (.lst (acc ++ [y])))
    | none => CInv R e F1 H1 D (i + 1) H4) fun F' H' r G' q => ?_
  have hF'D : F' D = none := G'.out hHD hFD
  have hp' : Paired (R F') acc (made e i) := paired_ext (fun v x => hR _ _ v x G'.ss) hp
  have hl : acc.length < sizeLine := by
    have h1 := paired_len hp
    have h2 := made_le e i
    omega
  cases r with
  | some y =>
    cases he : e i with
    | none =>
      rw [he] at q
      exact q.elim
    | some a =>
      rw [he] at q
      refine ⟨acc, G'.keep _ _ hHD, hl, F', acc ++ [y], (G.trans G').mut _ hF'D hD, hF'D, upd_same, ?_⟩
      rw [made_succ, he]
      exact paired_app hp' (.cons q .nil)
  | none =>
    cases he : e i with
    | some a =>
      rw [he] at q
      exact q.elim
    | none =>
      refine ⟨F', acc, G.trans G', hF'D, G'.keep _ _ hHD, ?_⟩
      rw [made_succ, he, List.append_nil]
      exact hp'
theorem CInv.done (hD : H1 D = none) (c : CInv R e F1 H1 D n H) (hR : ∀ F F' v x, Same F F' → R F v x → R F' v x) : ∃ F' ys, Grow F1 H1 F' H ∧ F' D = some (.lst ys) ∧ Paired (R F') ys (made e n) := by
  obtain ⟨F, acc, G, hFD, hHD, hp⟩ := c
  exact ⟨upd F D (.lst acc), acc, G.fix hHD hFD hD, upd_same, paired_ext (fun v x => hR _ _ v x (same_new _ hFD)) hp⟩
/-- the whole, over a list -/
theorem lcv_list {K : PySem.W.Frag} {a : Addr} {xs : List V} {Qd : Hp → Prop} (R : Hp → V → α → Prop) (e : Nat → Option α) (hR : ∀ F F' v x, Same F F' → R F v x → R F' v x) (hF : Same F1 H1) (hs : SqL K F1 a xs) (hD : H1 D = none) (hl : xs.length < sizeLine)
    (step : ∀ i x F H, xs[i]? = some x → Grow F1 H1 F H → F D = none → (∃ o, H D = some o) → ∀ Q : Option V → Hp → Prop, (∀ F' H' r, Grow F H F' H' → OptR R F' r (e i) → Q r H') → CStep g tt te vs σ x H Q)
    (hd : ∀ F' H' ys, Grow F1 H1 F' H' → F' D = some (.lst ys) → Paired (R F') ys (made e xs.length) → Qd H') :
    ∃ W : Nat → Nat → Hp → Prop, (∃ m, W 0 m (upd H1 D (.lst []))) ∧ ∀ i m H, W i m H →
      ((Itl K a).stop i H ∧ Qd H) ∨ ((Itl K a).go i H ∧ ∃ Nx : Hp → Prop, (∀ H', Nx H' → ∃ m', m' < m ∧ W (i + 1) m' H') ∧ ∀ x H', (Itl K a).yld i H x H' →
        g x (wipe σ vs) H' fun σ2 H2 => wipe σ2 vs = wipe σ vs ∧ tt σ2 H2 fun b H3 => if b = true then te σ2 H3 fun y H4 => ∃ acc, H4 D = some (.lst acc) ∧ acc.length < sizeLine ∧ Nx (upd H4 D (.lst (acc ++ [y]))) else Nx H3) := by
  refine lc_list (xs := xs) (CInv R e F1 H1 D) (CInv.start hF hD) (fun i H _ c => ?_) (fun i x H hi c => ?_) fun H c => ?_
  · obtain ⟨F, acc, G, _⟩ := c
    exact (G.ss.trans G.sub).seq hs
  · have hlt : i < xs.length := (List.getElem?_eq_some_iff.mp hi).1
    exact CInv.turn hR hD hlt hl c fun F G hFD ho => step i x F H hi G hFD ho
  · obtain ⟨F', ys, G, h1, h2⟩ := CInv.done hD c hR
    exact hd F' H ys G h1 h2
/-- over a tuple -/
theorem lcv_tup {K : PySem.W.Frag} {a : Addr} {xs : List V} {Qd : Hp → Prop} (R : Hp → V → α → Prop) (e : Nat → Option α) (hR : ∀ F F' v x, Same F F' → R F v x → R F' v x) (hF : Same F1 H1) (hs : F1 a = some (.tup xs)) (hD : H1 D = none) (hl : xs.length < sizeLine)
    (step : ∀ i x F H, xs[i]? = some x → Grow F1 H1 F H → F D = none → (∃ o, H D = some o) → ∀ Q : Option V → Hp → Prop, (∀ F' H' r, Grow F H F' H' → OptR R F' r (e i) → Q r H') → CStep g tt te vs σ x H Q)
    (hd : ∀ F' H' ys, Grow F1 H1 F' H' → F' D = some (.lst ys) → Paired (R F') ys (made e xs.length) → Qd H') :
    ∃ W : Nat → Nat → Hp → Prop, (∃ m, W 0 m (upd H1 D (.lst []))) ∧ ∀ i m H, W i m H →
      ((Itt K a).stop i H ∧ Qd H) ∨ ((Itt K a).go i H ∧ ∃ Nx : Hp → Prop, (∀ H', Nx H' → ∃ m', m' < m ∧ W (i + 1) m' H') ∧ ∀ x H', (Itt K a).yld i H x H' →
        g x (wipe σ vs) H' fun σ2 H2 => wipe σ2 vs = wipe σ vs ∧ tt σ2 H2 fun b H3 => if b = true then te σ2 H3 fun y H4 => ∃ acc, H4 D = some (.lst acc) ∧ acc.length < sizeLine ∧ Nx (upd H4 D (.lst (acc ++ [y]))) else Nx H3) := by
  refine lc_tup (xs := xs) (CInv R e F1 H1 D) (CInv.start hF hD) (fun i H _ c => ?_) (fun i x H hi c => ?_) fun H c => ?_
  · obtain ⟨F, acc, G, _⟩ := c
    exact SqT.of (G.sub _ _ (G.ss _ _ hs))
  · have hlt : i < xs.length := (List.getElem?_eq_some_iff.mp hi).1
    exact CInv.turn hR hD hlt hl c fun F G hFD ho => step i x F H hi G hFD ho
  · obtain ⟨F', ys, G, h1, h2⟩ := CInv.done hD c hR
    exact hd F' H ys G h1 h2
/-- over a range -/
theorem lcv_range {lo : Int} {n : Nat} {Qd : Hp → Prop} (R : Hp → V → α → Prop) (e : Nat → Option α) (hR : ∀ F F' v x, Same F F' → R F v x → R F' v x) (hF : Same F1 H1) (hD : H1 D = none) (hl : n < sizeLine)
    (step : ∀ i F H, i < n → Grow F1 H1 F H → F D = none → (∃ o, H D = some o) → ∀ Q : Option V → Hp → Prop, (∀ F' H' r, Grow F H F' H' → OptR R F' r (e i) → Q r H') → CStep g tt te vs σ (.int (lo + i)) H Q)
    (hd : ∀ F' H' ys, Grow F1 H1 F' H' → F' D = some (.lst ys) → Paired (R F') ys (made e n) → Qd H') :
    ∃ W : Nat → Nat → Hp → Prop, (∃ m, W 0 m (upd H1 D (.lst []))) ∧ ∀ i m H, W i m H →
      ((Itr lo n).stop i H ∧ Qd H) ∨ ((Itr lo n).go i H ∧ ∃ Nx : Hp → Prop, (∀ H', Nx H' → ∃ m', m' < m ∧ W (i + 1) m' H') ∧ ∀ x H', (Itr lo n).yld i H x H' →
        g x (wipe σ vs) H' fun σ2 H2 => wipe σ2 vs = wipe σ vs ∧ tt σ2 H2 fun b H3 => if b = true then te σ2 H3 fun y H4 => ∃ acc, H4 D = some (.lst acc) ∧ acc.length < sizeLine ∧ Nx (upd H4 D (.lst (acc ++ [y]))) else Nx H3) := by
  refine lc_range (CInv R e F1 H1 D) (CInv.start hF hD) (fun i H hi c => ?_) fun H c => ?_
  · exact CInv.turn hR hD hi hl c fun F G hFD ho => step i F H hi G hFD ho
  · obtain ⟨F', ys, G, h1, h2⟩ := CInv.done hD c hR
    exact hd F' H ys G h1 h2
end
/-- whole numbers -/
def RNat (_ : Hp) (v : V) (k : Nat) : Prop := v = nv k
theorem rnat_ext : ∀ F F' v x, Same F F' → RNat F v x → RNat F' v x := fun _ _ _ _ _ h => h
theorem rnat_map {F : Hp} {ys : List V} {ks : List Nat} (h : Paired (RNat F) ys ks) : ys = ks.map nv := by
  induction h with
  | nil => rfl
  | cons r t ih =>
    rw [List.map_cons, ← ih]
    congr 1
theorem made_if (p : Nat → Bool) (n : Nat) : made (fun i => if p i = true then some i else none) n = (List.range n).filter p := by
  unfold made
  induction List.range n with
  | nil => rfl
  | cons x xs ih =>
    cases h : p x <;> simp [h, ih]
theorem made_some {α : Type} (f : Nat → α) (n : Nat) : made (fun i => some (f i)) n = (List.range n).map f := by
  unfold made
  rw [List.filterMap_eq_map']
end CF

namespace CF
open PySem L2 PyProof.Rows
/-! ### which floors are made -/
/-- the door ahead of it is less -/
def prevB (ds : List (Int × Int)) (d : Int × Int) : Nat → Bool
  | 0 => true
  | j + 1 => match ds[j]? with
    | some c => !geP c d
    | none => false
def goodAt (n : Int) (ds : List (Int × Int)) (k : Nat) : Bool :=
  match ds[k]? with
  | some d => decide (0 ≤ d.1) && decide (d.1 < d.2) && decide (d.2 < n) && prevB ds d k
  | none => false
def goodB (n : Int) (ds : List (Int × Int)) : Bool := (List.range ds.length).all (goodAt n ds)
def floorB (n : Int) (ds : List (Int × Int)) : Bool := decide (1 ≤ n) && decide (n ≤ 6) && goodB n ds && reachedB n.toNat ds
def spInit (C CF : Addr) : Sp := fun vs H Q E => ∃ (F : Hp) (x dx : Addr) (n : Int) (v : V) (ds : List (Int × Int)), vs = [.ref x, .int n, v] ∧ Same F H ∧ F x = none ∧ H x = some (.ins C dx []) ∧ PairL F v ds ∧ ds.length ≤ 1000 ∧
  (floorB n ds = true → ∀ (d : Addr) (ys : List V) (H' : Hp), H d = none → (∀ b o, H b = some o → b ≠ x → H' b = some o) → H' x = some (.ins C dx (flds n d)) → H' d = some (.lst ys) → Paired (PairT F) ys ds → Q .non H') ∧
  (floorB n ds = false → ∀ H', Grow F H F H' → E (.ref CF) none H')
end CF

namespace CF
open PySem L2 PyProof.Rows
/-! ### the chase: the mirror -/
def asI (g : List Nat) : List Int := g.map fun (k : Nat) => (k : Int)
theorem asI_nv (g : List Nat) : (asI g).map V.int = g.map nv := by
  unfold asI
  rw [List.map_map]
  rfl
theorem asI_inj {a b : List Nat} (h : asI a = asI b) : a = b := by
  have h2 := congrArg (List.map Int.toNat) h
  unfold asI at h2
  rw [List.map_map, List.map_map] at h2
  have e : (Int.toNat ∘ fun k : Nat => (k : Int)) = id := by
    funext k
    simp
  rw [e, List.map_id, List.map_id] at h2
  exact h2
/-- all tuples of one member of each list -/
def goStep (found : List (List Nat)) (ms : List Nat) : List (List Nat) := found.flatMap fun s => ms.map fun m => s ++ [m]
def goF (lists : List (List Nat)) : List (List Nat) := lists.foldl goStep [[]]
/-- ranks: what is told of chasers and a runner -/
abbrev Rk := List Nat → Nat → Option Nat
def behStep (L : Rk) (g : List Nat) (acc : Option Nat) (p : Nat) : Option Nat := match acc, L g p with
  | some m, some k => some (if k > m then k else m)
  | _, _ => none
def behF (nr : List Nat) (L : Rk) (g : List Nat) (r : Nat) : Option Nat := if r ∈ g then some 0 else nr.foldl (behStep L g) (some 0)
def opN : Option Nat → V
  | some k => nv k
  | none => .non
/-- at a stands a dict of ranks -/
def RkH (P : Program) (w : World) (H : Hp) (a : Addr) (L : Rk) (b : Nat) : Prop := ∃ kvs, RkAt P w H a kvs ∧ kvs.length ≤ b ∧ ∀ g p, getN kvs (asI g, ((p : Nat) : Int)) = (L g p).map fun (k : Nat) => (k : Int)
theorem RkH.ext {P : Program} {w : World} {H H' : Hp} {a : Addr} {L : Rk} {b : Nat} (h : RkH P w H a L b) (e : Same H H') : RkH P w H' a L b := by
  obtain ⟨kvs, h1, h2, h3⟩ := h
  exact ⟨kvs, h1.ext e, h2, h3⟩
/-- all standings, in order -/
def allS (n : Nat) (ks : List (List Nat × List (List Nat))) : List (List Nat × Nat) := ks.flatMap fun k => (List.range n).map fun r => (k.1, r)
/-- one can go from there to standings that all have a rank -/
def winB (ar : List (List Nat)) (L : Rk) (gs : List (List Nat)) (r : Nat) : Bool := gs.any fun g => (behF (ar.getD r []) L g r).isSome
def moreF (ar : List (List Nat)) (L : Rk) (ks : List (List Nat × List (List Nat))) : List (List Nat × Nat) :=
  ks.flatMap fun k => ((List.range ar.length).filter fun r => (L k.1 r).isNone && winB ar L k.2 r).map fun r => (k.1, r)
def upL (L : Rk) (more : List (List Nat × Nat)) (t : Nat) : Rk := fun g r => if (g, r) ∈ more then some t else L g r
/-- behind so many laps -/
def lapL (ar : List (List Nat)) (ks : List (List Nat × List (List Nat))) (L0 : Rk) : Nat → Rk
  | 0 => L0
  | t + 1 => upL (lapL ar ks L0 t) (moreF ar (lapL ar ks L0 t) ks) (t + 1)
/-- the standing (g, r), a tuple of a tuple and a number -/
def StT (F : Hp) (v : V) (s : List Nat × Nat) : Prop := ∃ t q, v = .ref t ∧ F t = some (.tup [.ref q, nv s.2]) ∧ F q = some (.tup (s.1.map nv))
theorem StT.ext {F F' : Hp} {v : V} {s : List Nat × Nat} (e : Same F F') (h : StT F v s) : StT F' v s := by
  obtain ⟨t, q, h1, h2, h3⟩ := h
  exact ⟨t, q, h1, e _ _ h2, e _ _ h3⟩
theorem StT.nat {F : Hp} {t : Addr} {s : List Nat × Nat} (h : StT F (.ref t) s) : NAt F t (asI s.1, (s.2 : Int)) := by
  obtain ⟨t', q, e, h2, h3⟩ := h
  cases e
  exact ⟨q, h2, by rw [asI_nv]; exact h3⟩
/-- the known goings: chasers, and the list of where they can go -/
def KnH (H F : Hp) (d : Addr) (ks : List (List Nat × List (List Nat))) : Prop := ∃ kvs : List (List Key × V), H d = some (.dT kvs) ∧ (kvs.map (·.1)).Nodup ∧ Paired (fun (kv : List Key × V) k => kv.1 = (asI k.1).map Sum.inl ∧ NatTL F kv.2 k.2) kvs ks
theorem kV_asI (g : List Nat) : ((asI g).map (Sum.inl : Int → Key)).map kV = g.map nv := by
  unfold asI
  rw [List.map_map, List.map_map]
  rfl
/-! ### promises -/
def intsV (is : List Int) : List V := is.map V.int
/-- is it a standing -/
def standB (n : Nat) (is : List Int) (r : Int) : Bool := decide (1 ≤ is.length) && decide (is.length ≤ 2) && (is ++ [r]).all fun i => decide (0 ≤ i) && decide (i < n)
def spStand (C : Addr) : Sp := fun vs H Q _ => ∃ (F : Hp) (v : V) (n : Nat) (ds : List (Int × Int)) (a : Addr) (is : List Int) (r : Int), vs = [v, .ref a, .int r] ∧ Same F H ∧ FlrAt C F v n ds ∧ F a = some (.lst (intsV is)) ∧ is.length ≤ 1000 ∧
  ∀ H', Grow F H F H' → Q (.bl (standB n is r)) H'
def spAsked (C CN : Addr) : Sp := fun vs H Q E => ∃ (F : Hp) (v : V) (n : Nat) (ds : List (Int × Int)) (a : Addr) (is : List Int) (r : Int), vs = [v, .ref a, .int r] ∧ Same F H ∧ FlrAt C F v n ds ∧ F a = some (.lst (intsV is)) ∧ is.length ≤ 1000 ∧
  (standB n is r = true → ∀ H', Grow F H F H' → Q .non H') ∧ (standB n is r = false → ∀ H', Grow F H F H' → E (.ref CN) none H')
def spCaught (C CN : Addr) : Sp := fun vs H Q E => ∃ (F : Hp) (v : V) (n : Nat) (ds : List (Int × Int)) (a : Addr) (is : List Int) (r : Int), vs = [v, .ref a, .int r] ∧ Same F H ∧ FlrAt C F v n ds ∧ F a = some (.lst (intsV is)) ∧ is.length ≤ 1000 ∧
  (standB n is r = true → ∀ H', Grow F H F H' → Q (.bl (decide (r ∈ is))) H') ∧ (standB n is r = false → ∀ H', Grow F H F H' → E (.ref CN) none H')
/-- for each place the places near it -/
def arF (n : Nat) (ds : List (Int × Int)) : List (List Nat) := (List.range n).map fun p => nearF n ds p
def spAround (C : Addr) : Sp := fun vs H Q _ => ∃ (F : Hp) (v : V) (n : Nat) (ds : List (Int × Int)), vs = [v] ∧ Same F H ∧ FlrAt C F v n ds ∧ n ≤ 100 ∧
  ∀ F' H' u, Grow F H F' H' → NatLL F' u (arF n ds) → Q u H'
def spGoings : Sp := fun vs H Q _ => ∃ (F : Hp) (v : V) (ls : List (List Nat)), vs = [v] ∧ Same F H ∧ NatLL F v ls ∧ ls.length ≤ 2 ∧ (∀ l ∈ ls, l.length ≤ 100) ∧
  ∀ F' H' u, Grow F H F' H' → NatTL F' u (goF ls) → (∃ a, u = .ref a ∧ H a = none) → Q u H'
def spBehind (P : Program) (w : World) : Sp := fun vs H Q _ => ∃ (F : Hp) (v : V) (ar : List (List Nat)) (a : Addr) (L : Rk) (b : Nat) (u : V) (g : List Nat) (r : Nat), vs = [v, .ref a, u, nv r] ∧ Same F H ∧ NatLL F v ar ∧ RkH P w H a L b ∧ NatT F u g ∧ r < ar.length ∧
  ∀ F' H', Grow F H F' H' → Q (opN (behF (ar.getD r []) L g r)) H'
def spMore (P : Program) (w : World) : Sp := fun vs H Q _ => ∃ (F : Hp) (v : V) (ar : List (List Nat)) (a : Addr) (L : Rk) (b : Nat) (d : Addr) (ks : List (List Nat × List (List Nat))), vs = [v, .ref a, .ref d] ∧ Same F H ∧ NatLL F v ar ∧ RkH P w H a L b ∧ KnH H F d ks ∧ F d = none ∧
  ks.length ≤ 10000 ∧ ar.length ≤ 100 ∧ ∀ F' H' u, Grow F H F' H' → LstOf StT F' u (moreF ar L ks) → Q u H'
end CF

namespace CF
open PySem L2 PyProof.Rows
theorem flat_intsV (is : List Int) : (intsV is).all flatV = true := by
  rw [List.all_eq_true]
  intro v hv
  obtain ⟨i, _, rfl⟩ := List.mem_map.mp hv
  rfl
theorem inV_intsV (r : Int) (is : List Int) : (if false = true then !inV (.int r) (intsV is) else inV (.int r) (intsV is)) = decide (r ∈ is) := by
  rw [if_neg (by decide)]
  unfold inV intsV
  rw [List.any_map, Bool.eq_iff_iff, List.any_eq_true, decide_eq_true_eq]
  constructor
  · rintro ⟨x, hx, e⟩
    have e : (x == r) = true := e
    rw [beq_iff_eq] at e
    exact e ▸ hx
  · intro h
    exact ⟨r, h, beq_self_eq_true r⟩
theorem notInV_intsV (r : Int) (is : List Int) : (if true = true then !inV (.int r) (intsV is) else inV (.int r) (intsV is)) = !decide (r ∈ is) := by
  rw [if_pos rfl]
  have := inV_intsV r is
  rw [if_neg (by decide)] at this
  rw [this]
theorem nvs_intsV (g : List Nat) : g.map nv = intsV (asI g) := (asI_nv g).symm
theorem mem_asI {g : List Nat} {r : Nat} : ((r : Nat) : Int) ∈ asI g ↔ r ∈ g := by
  unfold asI
  rw [List.mem_map]
  constructor
  · rintro ⟨k, hk, e⟩
    have : k = r := by omega
    exact this ▸ hk
  · intro h
    exact ⟨r, h, rfl⟩
theorem paired_getE {α : Type} {R : Hp → V → α → Prop} {F : Hp} {ys : List V} {xs : List α} (h : Paired (R F) ys xs) {i : Nat} (hi : i < xs.length) : ∃ y, ys[i]? = some y ∧ R F y xs[i] :=
  paired_get h (List.getElem?_eq_getElem hi)
end CF
namespace CF
open PySem L2 PyProof.Rows
section
variable {te : TE} {vs : List Nat} {σ : L2.St} {x : V} {H : Hp} {Q : Option V → Hp → Prop} {tt : TT} {j : Nat}
/-- a turn without a test -/
theorem cs_yes (h : te ((wipe σ vs).set j (some x)) H fun y H4 => Q (some y) H4) (hw : wipe ((wipe σ vs).set j (some x)) vs = wipe σ vs := by rfl) : CStep (gName j) tYes te vs σ x H Q := by
  refine ⟨hw, ?_⟩
  show if true = true then (te ((wipe σ vs).set j (some x)) H fun y H4 => Q (some y) H4) else Q none H
  exact iteT h
theorem cs_if (h : tt ((wipe σ vs).set j (some x)) H fun b H3 => if b = true then te ((wipe σ vs).set j (some x)) H3 fun y H4 => Q (some y) H4 else Q none H3) (hw : wipe ((wipe σ vs).set j (some x)) vs = wipe σ vs := by rfl) : CStep (gName j) tt te vs σ x H Q := ⟨hw, h⟩
end
end CF
namespace CF
open PySem L2 PyProof.Rows
theorem flatMap_len (s : List (List Nat)) (ms : List Nat) : (goStep s ms).length = s.length * ms.length := by
  unfold goStep
  induction s with
  | nil => simp
  | cons x xs ih => simp [List.flatMap_cons, ih, Nat.succ_mul, Nat.add_comm]
theorem go_len : ∀ (ls : List (List Nat)) (f : List (List Nat)), (∀ l ∈ ls, l.length ≤ 100) → (ls.foldl goStep f).length ≤ f.length * 100 ^ ls.length
  | [], f, _ => by simp
  | l :: ls, f, h => by
    have ih := go_len ls (goStep f l) fun x hx => h x (List.mem_cons_of_mem _ hx)
    have h1 := h l List.mem_cons_self
    rw [flatMap_len] at ih
    rw [List.foldl_cons, List.length_cons, Nat.pow_succ]
    have h2 : f.length * l.length * 100 ^ ls.length ≤ f.length * 100 * 100 ^ ls.length := Nat.mul_le_mul_right _ (Nat.mul_le_mul_left _ h1)
    have h3 : f.length * 100 * 100 ^ ls.length = f.length * (100 ^ ls.length * 100) := by
      rw [Nat.mul_assoc, Nat.mul_comm 100]
    omega
theorem made_get {α β : Type} (l : List β) (f : β → α) : made (fun i => (l[i]?).map f) l.length = l.map f := by
  unfold made
  have h : ∀ n, n ≤ l.length → (List.range n).filterMap (fun i => (l[i]?).map f) = (l.take n).map f := by
    intro n
    induction n with
    | zero => intro _; rfl
    | succ n ih =>
      intro hn
      have hn' : n < l.length := by omega
      rw [List.range_succ, List.filterMap_append, ih (by omega), take_snoc (List.getElem?_eq_getElem hn'), List.map_append]
      simp [List.getElem?_eq_getElem hn']
  rw [h _ (Nat.le_refl _), List.take_length]
end CF
namespace CF
theorem go_mem : ∀ (ls : List (List Nat)) (f : List (List Nat)) (n : Nat), (∀ s ∈ f, s.length = n) → ∀ s ∈ ls.foldl goStep f, s.length = n + ls.length
  | [], f, n, h, s, hs => h s hs
  | l :: ls, f, n, h, s, hs => by
    have ih := go_mem ls (goStep f l) (n + 1) (fun s hs => by
      unfold goStep at hs
      obtain ⟨s', h1, h2⟩ := List.mem_flatMap.mp hs
      obtain ⟨m, _, rfl⟩ := List.mem_map.mp h2
      rw [List.length_append, h s' h1]
      rfl) s hs
    rw [ih, List.length_cons]
    omega
end CF
namespace CF
theorem behNone (L : Rk) (g : List Nat) : ∀ l : List Nat, l.foldl (behStep L g) none = none
  | [] => rfl
  | p :: l => by
    rw [List.foldl_cons]
    exact behNone L g l
end CF

namespace CF
open PySem L2 PyProof.Rows
/-- over the keys of a dict whose keys are tuples, locked meanwhile -/
theorem for_keysT {d : Addr} {o : Obj} {kvs : List (List Key × V)} {g : TG} {tb : TS} {D : Ends} {σ : L2.St} {H : Hp} (Pv : Nat → L2.St → Hp → Prop) (h0 : Pv 0 σ H) (hl : ∀ i σ H, i ≤ kvs.length → Pv i σ H → H d = some (.frz o (.dT kvs)))
    (hs : ∀ i k v q σ H, kvs[i]? = some (k, v) → H q = some (.tup (k.map kV)) → Pv i σ H → g (.ref q) σ H fun σ2 H2 => tb { D with nx := Pv (i + 1), ct := Pv (i + 1), bk := D.nx } σ2 H2) (hd : ∀ σ H, Pv kvs.length σ H → D.nx σ H) :
    ∃ W : Nat → Nat → L2.St → Hp → Prop, (∃ m, W 0 m σ H) ∧ ∀ i m σ H, W i m σ H →
      ((Itkt d o kvs).stop i H ∧ D.nx σ H) ∨ ((Itkt d o kvs).go i H ∧ ∃ N : L2.St → Hp → Prop, (∀ σ' H', N σ' H' → ∃ m', m' < m ∧ W (i + 1) m' σ' H') ∧
        ∀ x H', (Itkt d o kvs).yld i H x H' → g x σ H' fun σ2 H2 => tb { D with nx := N, ct := N, bk := D.nx } σ2 H2) := by
  refine ⟨fun i m σ H => m = kvs.length - i ∧ i ≤ kvs.length ∧ Pv i σ H, ⟨kvs.length, rfl, Nat.zero_le _, h0⟩, ?_⟩
  rintro i m σ H ⟨rfl, hi, p⟩
  have q := hl i σ H hi p
  by_cases c : i < kvs.length
  · refine .inr ⟨⟨q, c⟩, Pv (i + 1), fun σ' H' p' => ⟨kvs.length - (i + 1), by omega, rfl, c, p'⟩, fun x H' y => ?_⟩
    obtain ⟨rfl, k, v, a, e1, rfl, e3⟩ := y
    exact hs i k v a σ _ e1 e3 p
  · have e : i = kvs.length := by omega
    subst e
    exact .inl ⟨⟨q, Nat.le_refl _⟩, hd σ H p⟩
section
variable {G H F H' : Hp} {d : Addr} {u o : HO}
/-- a dict was locked through the whole of it -/
theorem Grow.unlock (hd : H d = some u) (g : Grow G (upd H d o) F H') (hF : F d = none) : Grow G H F (upd H' d u) := by
  refine ⟨g.ss, fun b v e => ?_, fun b v e => ?_, fun b v e => ?_⟩
  · rw [upd_ne (ne_of_none e hF)]
    exact g.sub _ _ e
  · by_cases c : b = d
    · subst c
      rw [upd_same, ← hd]
      exact e
    · rw [upd_ne c]
      exact g.keep _ _ (by rw [upd_ne c]; exact e)
  · rcases g.new b v e with c | c | c
    · exact .inl c
    · have nb : b ≠ d := fun z => by rw [z, upd_same] at c; cases c
      rw [upd_ne nb] at c
      exact .inr (.inl c)
    · exact .inr (.inr c)
end
theorem RkH.lock {P : Program} {w : World} {H : Hp} {a d : Addr} {L : Rk} {b : Nat} {kvs : List (List Key × V)} (h : RkH P w H a L b) (hd : H d = some (.dT kvs)) (o : HO) : RkH P w (upd H d o) a L b := by
  obtain ⟨ks, ⟨h1, h2, xs, h3, h4⟩, hb, h5⟩ := h
  refine ⟨ks, ⟨h1, h2, xs, ?_, h4.ext fun c ys e => ?_⟩, hb, h5⟩
  · rw [upd_ne (ne_of h3 hd (by intro z; cases z))]
    exact h3
  · rw [upd_ne (ne_of e hd (by intro z; cases z))]
    exact e
theorem moreF_snoc (ar : List (List Nat)) (L : Rk) {ks : List (List Nat × List (List Nat))} {i : Nat} {k : List Nat × List (List Nat)} (h : ks[i]? = some k) :
    moreF ar L (ks.take (i + 1)) = moreF ar L (ks.take i) ++ ((List.range ar.length).filter fun r => (L k.1 r).isNone && winB ar L k.2 r).map fun r => (k.1, r) := by
  rw [take_snoc h]
  unfold moreF
  rw [List.flatMap_append]
  simp
theorem filter_range_succ (p : Nat → Bool) (j : Nat) : (List.range (j + 1)).filter p = (List.range j).filter p ++ (if p j = true then [j] else []) := by
  rw [List.range_succ, List.filter_append]
  cases h : p j <;> simp [h]
theorem any_take_none {α : Type} {l : List α} {p : α → Bool} (h : ∀ (j : Nat) (x : α), l[j]? = some x → p x = false) : l.any p = false := by
  rw [List.any_eq_false]
  intro x hx
  obtain ⟨j, hj, e⟩ := List.mem_iff_getElem.mp hx
  rw [h j x (by rw [← e]; exact List.getElem?_eq_getElem hj)]
  decide
theorem opN_non (o : Option Nat) : (!decide (opN o = .non)) = o.isSome := by
  cases o with
  | none => rfl
  | some k => rfl
theorem valV_nd {kvs : List (List Key × V)} (hn : (kvs.map (·.1)).Nodup) : ∀ {i : Nat} {k : List Key} {v : V}, kvs[i]? = some (k, v) → valV kvs k = some v := by
  induction kvs with
  | nil =>
    intro i k v h
    simp at h
  | cons p r ih =>
    intro i k v h
    rw [List.map_cons] at hn
    obtain ⟨h1, h2⟩ := List.nodup_cons.mp hn
    cases i with
    | zero =>
      simp at h
      subst h
      exact valV_pos rfl
    | succ i =>
      simp at h
      have hm : k ∈ r.map (·.1) := List.mem_map.mpr ⟨(k, v), List.mem_of_getElem? h, rfl⟩
      rw [valV_neg (fun e => h1 (by rw [e]; exact hm))]
      exact ih h2 h
end CF
namespace CF
open PySem L2 PyProof.Rows
theorem upd_comm {H : Hp} {a b : Addr} {o u : HO} (h : a ≠ b) : upd (upd H a o) b u = upd (upd H b u) a o := by
  funext c
  by_cases c1 : c = b
  · subst c1
    rw [upd_same, upd_ne h.symm, upd_same]
  · rw [upd_ne c1]
    by_cases c2 : c = a
    · subst c2
      rw [upd_same, upd_same]
    · rw [upd_ne c2, upd_ne c2, upd_ne c1]
theorem moreF_len (ar : List (List Nat)) (L : Rk) : ∀ ks : List (List Nat × List (List Nat)), (moreF ar L ks).length ≤ ks.length * ar.length
  | [] => by simp [moreF]
  | k :: ks => by
    have ih := moreF_len ar L ks
    unfold moreF at ih ⊢
    rw [List.flatMap_cons, List.length_append, List.length_map, List.length_cons, Nat.succ_mul]
    have := List.length_filter_le (fun r => (L k.1 r).isNone && winB ar L k.2 r) (List.range ar.length)
    rw [List.length_range] at this
    omega
end CF

namespace CF
open PySem L2 PyProof.Rows
/-! ### the ranks of all standings: the mirror -/
/-- where so many chasers can stand, in order -/
def cssF (n c : Nat) : List (List Nat) := goF (List.replicate c (List.range n))
/-- where chasers can go -/
def glF (ar : List (List Nat)) (cs : List Nat) : List (List Nat) := goF (cs.map fun p => ar.getD p [])
def ksF (ar : List (List Nat)) (css : List (List Nat)) : List (List Nat × List (List Nat)) := css.map fun cs => (cs, glF ar cs)
def L0F (css : List (List Nat)) : Rk := fun g r => if g ∈ css ∧ r ∈ g then some 0 else none
/-- how many standings have no rank -/
def unr (n : Nat) (css : List (List Nat)) (L : Rk) : Nat := ((css.flatMap fun cs => (List.range n).map fun r => (cs, r)).filter fun s => (L s.1 s.2).isNone).length
def lapN (n : Nat) (ds : List (Int × Int)) (c t : Nat) : Rk := lapL (arF n ds) (ksF (arF n ds) (cssF n c)) (L0F (cssF n c)) t
/-- the ranks -/
def ranksF (n : Nat) (ds : List (Int × Int)) (c : Nat) : Rk := lapN n ds c (unr n (cssF n c) (L0F (cssF n c)))
theorem arF_len (n : Nat) (ds : List (Int × Int)) : (arF n ds).length = n := by simp [arF]
/-- the standings that come, as a choice of all -/
theorem moreF_filter (ar : List (List Nat)) (L : Rk) : ∀ css : List (List Nat), moreF ar L (ksF ar css) = (css.flatMap fun cs => (List.range ar.length).map fun r => (cs, r)).filter fun s => (L s.1 s.2).isNone && winB ar L (glF ar s.1) s.2
  | [] => rfl
  | cs :: css => by
    have ih := moreF_filter ar L css
    unfold moreF ksF at ih ⊢
    rw [List.map_cons, List.flatMap_cons, List.flatMap_cons, List.filter_append, ← ih, List.filter_map]
    rfl
theorem filter_split {α : Type} (p q : α → Bool) : ∀ l : List α, (l.filter p).length = (l.filter fun x => p x && q x).length + (l.filter fun x => p x && !q x).length
  | [] => rfl
  | x :: l => by
    have ih := filter_split p q l
    cases hp : p x <;> cases hq : q x <;> simp [hp, hq, ih] <;> omega
theorem unr_up (ar : List (List Nat)) (L : Rk) (css : List (List Nat)) (t : Nat) : unr ar.length css (upL L (moreF ar L (ksF ar css)) t) + (moreF ar L (ksF ar css)).length = unr ar.length css L := by
  unfold unr
  have e := filter_split (fun s : List Nat × Nat => (L s.1 s.2).isNone) (fun s => winB ar L (glF ar s.1) s.2) (css.flatMap fun cs => (List.range ar.length).map fun r => (cs, r))
  rw [e, moreF_filter, Nat.add_comm]
  congr 2
  refine List.filter_congr fun s hs => ?_
  unfold upL
  by_cases c : (s.1, s.2) ∈ (css.flatMap fun cs => (List.range ar.length).map fun r => (cs, r)).filter fun s => (L s.1 s.2).isNone && winB ar L (glF ar s.1) s.2
  · rw [if_pos c]
    have h := (List.mem_filter.mp c).2
    simp only [Bool.and_eq_true] at h
    simp [h.2]
  · rw [if_neg c]
    cases hL : (L s.1 s.2).isNone with
    | false => simp
    | true =>
      cases hw : winB ar L (glF ar s.1) s.2 with
      | false => rfl
      | true => exact absurd (List.mem_filter.mpr ⟨hs, by simp [hL, hw]⟩) c
theorem unr_lap (n : Nat) (ds : List (Int × Int)) (c t : Nat) : unr n (cssF n c) (lapN n ds c (t + 1)) + (moreF (arF n ds) (lapN n ds c t) (ksF (arF n ds) (cssF n c))).length = unr n (cssF n c) (lapN n ds c t) := by
  have h := unr_up (arF n ds) (lapN n ds c t) (cssF n c) (t + 1)
  rw [arF_len] at h
  exact h
theorem upL_nil (L : Rk) (t : Nat) : upL L [] t = L := by
  funext g r
  unfold upL
  rw [if_neg (by simp)]
/-- where nothing comes, nothing comes any more -/
theorem lap_stay {n : Nat} {ds : List (Int × Int)} {c t : Nat} (h : moreF (arF n ds) (lapN n ds c t) (ksF (arF n ds) (cssF n c)) = []) : ∀ j, lapN n ds c (t + j) = lapN n ds c t
  | 0 => rfl
  | j + 1 => by
    have ih := lap_stay h j
    show upL (lapN n ds c (t + j)) (moreF (arF n ds) (lapN n ds c (t + j)) (ksF (arF n ds) (cssF n c))) (t + j + 1) = _
    rw [ih, h, upL_nil]
/-- each lap ahead of the end brings something -/
theorem lap_unr {n : Nat} {ds : List (Int × Int)} {c : Nat} : ∀ t, (∀ s, s < t → moreF (arF n ds) (lapN n ds c s) (ksF (arF n ds) (cssF n c)) ≠ []) → unr n (cssF n c) (lapN n ds c t) + t ≤ unr n (cssF n c) (L0F (cssF n c))
  | 0, _ => Nat.le_refl _
  | t + 1, h => by
    have ih := lap_unr t fun s hs => h s (by omega)
    have h1 := unr_lap n ds c t
    have h2 : 0 < (moreF (arF n ds) (lapN n ds c t) (ksF (arF n ds) (cssF n c))).length := by
      have := h t (Nat.lt_succ_self t)
      cases hm : moreF (arF n ds) (lapN n ds c t) (ksF (arF n ds) (cssF n c)) with
      | nil => exact absurd hm this
      | cons _ _ => simp
    omega
theorem ranks_end {n : Nat} {ds : List (Int × Int)} {c t : Nat} (h0 : ∀ s, s < t → moreF (arF n ds) (lapN n ds c s) (ksF (arF n ds) (cssF n c)) ≠ []) (h : moreF (arF n ds) (lapN n ds c t) (ksF (arF n ds) (cssF n c)) = []) : lapN n ds c t = ranksF n ds c := by
  have h1 := lap_unr t h0
  obtain ⟨j, hj⟩ : ∃ j, unr n (cssF n c) (L0F (cssF n c)) = t + j := ⟨unr n (cssF n c) (L0F (cssF n c)) - t, by omega⟩
  unfold ranksF
  rw [hj, lap_stay h]
/-! members of the lists of chasers -/
theorem goStep_nodup {f : List (List Nat)} {ms : List Nat} (hf : f.Nodup) (hm : ms.Nodup) : (goStep f ms).Nodup := by
  unfold goStep
  induction f with
  | nil => simp
  | cons s f ih =>
    obtain ⟨h1, h2⟩ := List.nodup_cons.mp hf
    rw [List.flatMap_cons, List.nodup_append]
    refine ⟨?_, ih h2, fun a ha b hb e => ?_⟩
    · refine List.Pairwise.map _ (fun a b hab e => hab ?_) hm
      have := (List.append_inj' e rfl).2
      simpa using this
    · obtain ⟨m, _, rfl⟩ := List.mem_map.mp ha
      obtain ⟨s', hs', h3⟩ := List.mem_flatMap.mp hb
      obtain ⟨m', _, rfl⟩ := List.mem_map.mp h3
      have := (List.append_inj' e rfl).1
      exact h1 (this ▸ hs')
theorem go_nodup : ∀ (ls : List (List Nat)) (f : List (List Nat)), f.Nodup → (∀ l ∈ ls, l.Nodup) → (ls.foldl goStep f).Nodup
  | [], f, h, _ => h
  | l :: ls, f, h, hl => go_nodup ls _ (goStep_nodup h (hl l List.mem_cons_self)) fun x hx => hl x (List.mem_cons_of_mem _ hx)
theorem cssF_nodup (n c : Nat) : (cssF n c).Nodup := go_nodup _ _ (by simp) fun l hl => by
  rw [List.eq_of_mem_replicate hl]
  exact List.nodup_range
theorem goStep_mem {f : List (List Nat)} {ms : List Nat} {s : List Nat} : s ∈ goStep f ms ↔ ∃ s' ∈ f, ∃ m ∈ ms, s = s' ++ [m] := by
  unfold goStep
  rw [List.mem_flatMap]
  constructor
  · rintro ⟨s', h1, h2⟩
    obtain ⟨m, h3, rfl⟩ := List.mem_map.mp h2
    exact ⟨s', h1, m, h3, rfl⟩
  · rintro ⟨s', h1, m, h3, rfl⟩
    exact ⟨s', h1, List.mem_map.mpr ⟨m, h3, rfl⟩⟩
theorem cssF_mem : ∀ {c n : Nat} {s : List Nat}, s ∈ cssF n c ↔ s.length = c ∧ ∀ p ∈ s, p < n
  | 0, n, s => by
    unfold cssF goF
    rw [List.replicate_zero, List.foldl_nil, List.mem_singleton]
    constructor
    · rintro rfl
      exact ⟨rfl, fun p hp => by simp at hp⟩
    · rintro ⟨h, _⟩
      exact List.length_eq_zero_iff.mp h
  | c + 1, n, s => by
    have ih := fun s => @cssF_mem c n s
    unfold cssF goF at ih ⊢
    rw [List.replicate_succ', List.foldl_append, List.foldl_cons, List.foldl_nil, goStep_mem]
    constructor
    · rintro ⟨s', h1, m, h2, rfl⟩
      obtain ⟨h3, h4⟩ := (ih s').mp h1
      refine ⟨by simp [h3], fun p hp => ?_⟩
      rcases List.mem_append.mp hp with h | h
      · exact h4 p h
      · rw [List.mem_singleton] at h
        rw [h]
        exact List.mem_range.mp h2
    · rintro ⟨h1, h2⟩
      have hne : s ≠ [] := fun e => by rw [e] at h1; simp at h1
      refine ⟨s.dropLast, (ih _).mpr ⟨by rw [List.length_dropLast, h1]; rfl, fun p hp => h2 p (List.dropLast_subset _ hp)⟩, s.getLast hne, List.mem_range.mpr (h2 _ (List.getLast_mem hne)), (List.dropLast_concat_getLast hne).symm⟩
theorem cssF_len {n c : Nat} (hn : n ≤ 100) (hc : c ≤ 2) : (cssF n c).length ≤ 10000 := by
  have h := go_len (List.replicate c (List.range n)) [[]] fun l hl => by
    rw [List.eq_of_mem_replicate hl, List.length_range]
    exact hn
  have h2 : 100 ^ (List.replicate c (List.range n)).length ≤ 100 ^ 2 := Nat.pow_le_pow_right (by decide) (by rw [List.length_replicate]; exact hc)
  unfold cssF goF
  simp only [List.length_cons, List.length_nil] at h
  omega
end CF
namespace CF
open PySem L2 PyProof.Rows
def spRanks (P : Program) (w : World) (C : Addr) : Sp := fun vs H Q _ => ∃ (F : Hp) (v : V) (n : Nat) (ds : List (Int × Int)) (c : Nat), vs = [v, nv c] ∧ Same F H ∧ FlrAt C F v n ds ∧ n ≤ 6 ∧ c ≤ 2 ∧
  ∀ F' H' a, Grow F H F' H' → F' a = none → RkH P w H' a (ranksF n ds c) 100000 → H a = none → Q (.ref a) H'
theorem rgV_nv (n : Nat) : rgV 0 (n : Int) = (List.range n).map nv := by
  unfold rgV
  have e : ((n : Int) - 0).toNat = n := by omega
  rw [e]
  refine List.map_congr_left fun i _ => ?_
  show V.int (0 + (i : Int)) = V.int (i : Int)
  rw [Int.zero_add]
theorem made_const {α : Type} (x : α) (c : Nat) : made (fun _ => some x) c = List.replicate c x := by
  rw [made_some]
  induction c with
  | zero => rfl
  | succ c ih => rw [List.range_succ, List.map_append, ih, List.replicate_succ']; rfl
/-- a rank is put -/
theorem RkH.put {P : Program} {w : World} {H : Hp} {a t : Addr} {L : Rk} {b : Nat} {s : List Nat × Nat} (h : RkH P w H a L b) (hb : b < sizeLine) (hs : NAt H t (asI s.1, (s.2 : Int))) (k : Nat) {Z : Hp → Prop}
    (z : ∀ o, RkH P w (upd H a o) a (fun g r => if (g, r) = s then some k else L g r) (b + 1) → Z (upd H a o)) : RkPut P w H a t (nv k) Z := by
  obtain ⟨kvs, h1, h2, h3⟩ := h
  refine ⟨_, kvs, (k : Int), h1, hs, rfl, by omega, fun o ho => z o ⟨_, ho, ?_, fun g p => ?_⟩⟩
  · have := length_putN kvs (asI s.1, (s.2 : Int)) (k : Int)
    omega
  · rw [getN_put]
    by_cases c : (g, p) = s
    · subst c
      rw [if_pos rfl]
      show some (k : Int) = Option.map _ (if (g, p) = (g, p) then some k else L g p)
      rw [if_pos rfl]
      rfl
    · have c2 : ¬ (asI g, (p : Int)) = (asI s.1, (s.2 : Int)) := fun e => c (by
        injection e with e1 e2
        have e3 := asI_inj e1
        have e4 : p = s.2 := by omega
        rw [e3, e4])
      rw [if_neg c2, h3]
      show _ = Option.map _ (if (g, p) = s then some k else L g p)
      rw [if_neg c]
theorem RkH.new {P : Program} {w : World} {H : Hp} {a : Addr} (h : RkAt P w H a []) (b : Nat) : RkH P w H a (fun _ _ => none) b := ⟨[], h, Nat.zero_le _, fun g p => rfl⟩
theorem RkH.eqv {P : Program} {w : World} {H : Hp} {a : Addr} {L L' : Rk} {b b' : Nat} (h : RkH P w H a L b) (e : ∀ g r, L g r = L' g r) (hb : b ≤ b') : RkH P w H a L' b' := by
  obtain ⟨kvs, h1, h2, h3⟩ := h
  exact ⟨kvs, h1, by omega, fun g p => by rw [h3, e]⟩
theorem paired_ext2 {α β : Type} {R S : α → β → Prop} (h : ∀ a b, R a b → S a b) {xs : List α} {ys : List β} (p : Paired R xs ys) : Paired S xs ys := Paired.mapP p h
theorem KnH.ext {H H' F F' : Hp} {d : Addr} {ks : List (List Nat × List (List Nat))} (h : KnH H F d ks) (e : Same F F') (hd : ∀ o, H d = some o → H' d = some o) : KnH H' F' d ks := by
  obtain ⟨kvs, h1, h2, h3⟩ := h
  exact ⟨kvs, hd _ h1, h2, paired_ext2 (fun kv k h => ⟨h.1, h.2.ext e⟩) h3⟩
/-- some standings more have the same rank -/
theorem upL_snoc (L : Rk) (m : List (List Nat × Nat)) (s : List Nat × Nat) (t : Nat) (g : List Nat) (r : Nat) : (if (g, r) = s then some t else upL L m t g r) = upL L (m ++ [s]) t g r := by
  unfold upL
  by_cases c : (g, r) = s
  · rw [if_pos c, if_pos (by rw [c]; simp)]
  · rw [if_neg c]
    by_cases c2 : (g, r) ∈ m
    · rw [if_pos c2, if_pos (List.mem_append_left _ c2)]
    · rw [if_neg c2, if_neg (fun h => by
        rcases List.mem_append.mp h with h | h
        · exact c2 h
        · exact c (List.mem_singleton.mp h))]
theorem unr_le (n : Nat) (css : List (List Nat)) (L : Rk) : unr n css L ≤ css.length * n := by
  unfold unr
  refine Nat.le_trans (List.length_filter_le _ _) ?_
  rw [List.length_flatMap]
  have : (css.map fun cs => ((List.range n).map fun r => (cs, r)).length) = List.replicate css.length n := by
    rw [List.eq_replicate_iff]
    simp
  rw [this]
  simp
end CF

namespace CF
open PySem L2 PyProof.Rows
/-! ### rank -/
theorem asI_toNat {is : List Int} (h : ∀ i ∈ is, 0 ≤ i) : asI (is.map Int.toNat) = is := by
  unfold asI
  rw [List.map_map]
  conv => rhs; rw [← List.map_id is]
  refine List.map_congr_left fun i hi => ?_
  have := h i hi
  show ((i.toNat : Nat) : Int) = i
  omega
theorem standB_true {n : Nat} {is : List Int} {r : Int} (h : standB n is r = true) : ∃ (cs : List Nat) (k : Nat), is = asI cs ∧ r = (k : Int) ∧ 1 ≤ cs.length ∧ cs.length ≤ 2 ∧ (∀ p ∈ cs, p < n) ∧ k < n := by
  unfold standB at h
  simp only [Bool.and_eq_true, decide_eq_true_eq, List.all_eq_true] at h
  obtain ⟨⟨h1, h2⟩, h3⟩ := h
  have hr := h3 r (by simp)
  have hi : ∀ i ∈ is, 0 ≤ i ∧ i < n := fun i hi => h3 i (List.mem_append_left _ hi)
  refine ⟨is.map Int.toNat, r.toNat, (asI_toNat fun i h => (hi i h).1).symm, by omega, by simpa using h1, by simpa using h2, fun p hp => ?_, by omega⟩
  obtain ⟨i, hi', rfl⟩ := List.mem_map.mp hp
  have := hi i hi'
  omega
theorem intsV_asI (cs : List Nat) : intsV (asI cs) = cs.map nv := by
  unfold intsV
  exact asI_nv cs
theorem asI_len (cs : List Nat) : (asI cs).length = cs.length := by simp [asI]
theorem getN_op {o : Option Nat} : ((o.map fun (k : Nat) => (k : Int)).map V.int).getD V.non = opN o := by
  cases o <;> rfl
def spRank (C CN : Addr) : Sp := fun vs H Q E => ∃ (F : Hp) (v : V) (n : Nat) (ds : List (Int × Int)) (a : Addr) (is : List Int) (r : Int), vs = [v, .ref a, .int r] ∧ Same F H ∧ FlrAt C F v n ds ∧ n ≤ 6 ∧ F a = some (.lst (intsV is)) ∧ is.length ≤ 1000 ∧
  (∀ (cs : List Nat) (k : Nat), is = asI cs → r = (k : Int) → standB n is r = true → ∀ F' H', Grow F H F' H' → Q (opN (ranksF n ds cs.length cs k)) H') ∧ (standB n is r = false → ∀ H', Grow F H F H' → E (.ref CN) none H')
end CF

namespace CF
open PySem L2 PyProof.Rows
/-! ### the law's helpers: promises -/
def cellF (sc : List Int) (k : Int) : Int := sc.getD k.toNat 0
def ScrAt (K : PySem.W.Frag) (F : Hp) (a : Addr) (sc : List Int) : Prop := SqL K F a (intsV sc) ∧ sc.length ≤ 1000
theorem ScrAt.ext {K : PySem.W.Frag} {F F' : Hp} {a : Addr} {sc : List Int} (h : ScrAt K F a sc) (e : Same F F') : ScrAt K F' a sc := ⟨e.seq h.1, h.2⟩
def spCell (K : PySem.W.Frag) : Sp := fun vs H Q _ => ∃ (a : Addr) (sc : List Int) (k : Int), vs = [.ref a, .int k] ∧ ScrAt K H a sc ∧ 0 ≤ k ∧ Q (.int (cellF sc k)) H
def spLNear : Sp := fun vs H Q _ => ∃ (F : Hp) (n : Nat) (v : V) (ds : List (Int × Int)) (p : Nat), vs = [nv n, v, nv p] ∧ Same F H ∧ PairL F v ds ∧ n ≤ 100 ∧
  ∀ F' H' u, Grow F H F' H' → NatL F' u (nearF n ds p) → Q u H'
def spLGo : Sp := fun vs H Q _ => ∃ (F : Hp) (v u : V) (ar : List (List Nat)) (cs : List Nat), vs = [v, u] ∧ Same F H ∧ NatLL F v ar ∧ (NatT F u cs ∨ NatL F u cs) ∧ cs.length ≤ 2 ∧ (∀ l ∈ ar, l.length ≤ 100) ∧ (∀ p ∈ cs, p < ar.length) ∧
  ∀ F' H' u, Grow F H F' H' → NatTL F' u (glF ar cs) → Q u H'
def spLWorst (P : Program) (w : World) : Sp := fun vs H Q _ => ∃ (F : Hp) (v : V) (ar : List (List Nat)) (a : Addr) (L : Rk) (b : Nat) (u : V) (g : List Nat) (r : Nat), vs = [v, .ref a, u, nv r] ∧ Same F H ∧ NatLL F v ar ∧ RkH P w H a L b ∧ NatT F u g ∧ r < ar.length ∧ (∀ l ∈ ar, l ≠ [] ∧ l.length ≤ 100) ∧
  ∀ F' H', Grow F H F' H' → Q (opN (behF (ar.getD r []) L g r)) H'
theorem mnI_comm (a b : Int) : mnI a b = mnI b a := by
  unfold mnI
  split <;> split <;> omega
theorem mxI_comm (a b : Int) : mxI a b = mxI b a := by
  unfold mxI
  split <;> split <;> omega
theorem joinsB_comm (ds : List (Int × Int)) (p q : Int) : joinsB ds p q = joinsB ds q p := by
  unfold joinsB
  rw [mnI_comm, mxI_comm]
  congr 1
  exact decide_eq_decide.mpr ⟨Eq.symm, Eq.symm⟩
/-- the greatest, where all have a rank -/
theorem behAll (L : Rk) (g : List Nat) : ∀ (l : List Nat) (m : Nat), (∀ p ∈ l, (L g p).isSome = true) → ∃ M, l.foldl (behStep L g) (some m) = some M ∧ m ≤ M ∧ (M = m ∨ ∃ p ∈ l, L g p = some M) ∧ ∀ p ∈ l, ∀ k, L g p = some k → k ≤ M
  | [], m, _ => ⟨m, rfl, Nat.le_refl _, .inl rfl, fun p hp => by cases hp⟩
  | p :: l, m, h => by
    obtain ⟨k, hk⟩ := Option.isSome_iff_exists.mp (h p List.mem_cons_self)
    obtain ⟨M, h1, h2, h3, h4⟩ := behAll L g l (if k > m then k else m) fun q hq => h q (List.mem_cons_of_mem _ hq)
    have e : behStep L g (some m) p = some (if k > m then k else m) := by
      unfold behStep
      rw [hk]
    refine ⟨M, by rw [List.foldl_cons, e, h1], ?_, ?_, ?_⟩
    · split at h2 <;> omega
    · rcases h3 with h3 | ⟨q, hq, h3⟩
      · by_cases c : k > m
        · rw [if_pos c] at h3
          exact .inr ⟨p, List.mem_cons_self, by rw [hk, h3]⟩
        · rw [if_neg c] at h3
          exact .inl h3
      · exact .inr ⟨q, List.mem_cons_of_mem _ hq, h3⟩
    · intro q hq k' hk'
      rcases List.mem_cons.mp hq with e1 | hq
      · subst e1
        rw [hk] at hk'
        cases hk'
        split at h2 <;> omega
      · exact h4 q hq k' hk'
theorem behSome (L : Rk) (g : List Nat) : ∀ (l : List Nat) (m : Nat), (∃ p ∈ l, L g p = none) → l.foldl (behStep L g) (some m) = none
  | [], _, ⟨p, hp, _⟩ => by cases hp
  | p :: l, m, ⟨q, hq, h⟩ => by
    rw [List.foldl_cons]
    cases hk : L g p with
    | none =>
      have e : behStep L g (some m) p = none := by
        unfold behStep
        rw [hk]
      rw [e, behNone]
    | some k =>
      have e : behStep L g (some m) p = some (if k > m then k else m) := by
        unfold behStep
        rw [hk]
      rw [e]
      refine behSome L g l _ ⟨q, ?_, h⟩
      rcases List.mem_cons.mp hq with e1 | hq
      · subst e1
        rw [hk] at h
        cases h
      · exact hq
def ROp (_ : Hp) (v : V) (o : Option Nat) : Prop := v = opN o
theorem rop_ext : ∀ F F' v x, Same F F' → ROp F v x → ROp F' v x := fun _ _ _ _ _ h => h
theorem rop_map {F : Hp} {ys : List V} {ks : List (Option Nat)} (h : Paired (ROp F) ys ks) : ys = ks.map opN := by
  induction h with
  | nil => rfl
  | cons r t ih =>
    rw [List.map_cons, ← ih]
    congr 1
theorem flat_opN (ks : List (Option Nat)) : (ks.map opN).all flatV = true := by
  rw [List.all_eq_true]
  intro v hv
  obtain ⟨o, _, rfl⟩ := List.mem_map.mp hv
  cases o <;> rfl
theorem inV_opN (ks : List (Option Nat)) : (if false = true then !inV .non (ks.map opN) else inV .non (ks.map opN)) = decide (none ∈ ks) := by
  rw [if_neg (by decide)]
  unfold inV
  rw [List.any_map, Bool.eq_iff_iff, List.any_eq_true, decide_eq_true_eq]
  constructor
  · rintro ⟨x, hx, e⟩
    cases x with
    | none => exact hx
    | some k => exact absurd e (by show ¬ ((nv k : V) == V.non) = true; simp [nv])
  · intro h
    exact ⟨none, h, beq_self_eq_true V.non⟩
theorem all_some {ks : List (Option Nat)} (h : none ∉ ks) : ∃ ns : List Nat, ks = ns.map some := by
  induction ks with
  | nil => exact ⟨[], rfl⟩
  | cons o ks ih =>
    obtain ⟨ns, rfl⟩ := ih fun z => h (List.mem_cons_of_mem _ z)
    cases o with
    | none => exact absurd List.mem_cons_self h
    | some k => exact ⟨k :: ns, rfl⟩
/-! ### over a tuple or a list -/
theorem pi_alt {X : Cx} {tg it : Expr} {w1 w2 : TI} (h1 : PI X tg it w1) (h2 : PI X tg it w2) : PI X tg it (fun σ H R => w1 σ H R ∨ w2 σ H R) :=
  ⟨fun pins s σ H R I h => h.elim (fun h => h1.run pins s σ H R I h) fun h => h2.run pins s σ H R I h⟩
theorem for_mode {K : PySem.W.Frag} {tl : TE} {g : TG} {tb : TS} {D : Ends} {σ : L2.St} {H : Hp} {a : Addr} {xs : List V} (m : Bool) (hv : ∀ Q : VK, Q (.ref a) H → tl σ H Q) (Pv : Nat → L2.St → Hp → Prop) (h0 : Pv 0 σ H) (hq : ∀ i σ H, i ≤ xs.length → Pv i σ H → if m = true then SqT K H a xs else SqL K H a xs)
    (hs : ∀ i x σ H, xs[i]? = some x → Pv i σ H → g x σ H fun σ2 H2 => tb { D with nx := Pv (i + 1), ct := Pv (i + 1), bk := D.nx } σ2 H2) (hd : ∀ σ H, Pv xs.length σ H → D.nx σ H) : tFor (fun σ H R => iTup K tl σ H R ∨ iList K tl σ H R) g tb D σ H := by
  have q0 := hq 0 σ H (Nat.zero_le _) h0
  cases m with
  | true => exact .inl (hv _ ⟨a, rfl, ⟨xs, q0⟩, for_tup (K := K) (a := a) (xs := xs) Pv h0 (fun i σ H hi p => hq i σ H hi p) hs hd⟩)
  | false => exact .inr (hv _ ⟨a, rfl, ⟨xs, q0⟩, for_list (K := K) (a := a) (xs := xs) Pv h0 (fun i σ H hi p => hq i σ H hi p) hs hd⟩)
end CF

namespace CF
open PySem L2 PyProof.Rows
/-! ### a cut between two statements -/
def tCut (t : TS) : TS := fun D σ H => ∃ I : L2.St → Hp → Prop, t { D with nx := I } σ H ∧ ∀ σ' H', I σ' H' → D.nx σ' H'
theorem ps_cut {X : Cx} {st : Stmt} {t : TS} (h : PS X st t) : PS X st (tCut t) := by
  refine ⟨fun pins s σ H D I ⟨J, h1, h2⟩ => ?_⟩
  refine thn (h.run pins s σ H _ I h1) fun f s' q => ?_
  cases f with
  | next =>
    obtain ⟨σ', H', I', j⟩ := q
    exact ⟨σ', H', I', h2 _ _ j⟩
  | brk => exact q
  | cont => exact q
  | ret u => exact q
/-! ### the law's own ranks -/
def spLRanks (P : Program) (w : World) : Sp := fun vs H Q _ => ∃ (F : Hp) (n : Nat) (v : V) (ds : List (Int × Int)) (c : Nat), vs = [nv n, v, nv c] ∧ Same F H ∧ PairL F v ds ∧ 1 ≤ n ∧ n ≤ 6 ∧ (c = 1 ∨ c = 2) ∧ moreF (arF n ds) (lapN n ds c 40) (ksF (arF n ds) (cssF n c)) = [] ∧
  ∀ F' H' a, Grow F H F' H' → F' a = none → RkH P w H' a (ranksF n ds c) 100000 → H a = none → Q (.ref a) H'
theorem cssF_one (n : Nat) : cssF n 1 = (List.range n).map fun i => [i] := by
  unfold cssF goF goStep
  rw [List.replicate_succ, List.replicate_zero, List.foldl_cons, List.foldl_nil]
  simp
theorem cssF_two {n : Nat} (h : n ≤ 6) : cssF n 2 = (List.range (n * n)).map fun k => [k / n, k % n] := by
  have : n = 0 ∨ n = 1 ∨ n = 2 ∨ n = 3 ∨ n = 4 ∨ n = 5 ∨ n = 6 := by omega
  rcases this with rfl | rfl | rfl | rfl | rfl | rfl | rfl <;> decide
theorem made_none {α : Type} (l : List (Option α)) (k : Nat) (h : k = l.length) : made (fun i => (l[i]?).bind id) k = l.filterMap id := by
  subst h
  induction l with
  | nil => rfl
  | cons x l ih =>
    unfold made at ih ⊢
    rw [List.length_cons, List.range_succ_eq_map, List.filterMap_cons, List.filterMap_map, List.filterMap_cons]
    have e : ((fun i => ((x :: l)[i]?).bind id) ∘ Nat.succ) = fun i => (l[i]?).bind id := by
      funext i
      simp
    rw [e, ih]
    rfl
theorem filterMap_pos {l : List (Option Nat)} : (0 : Int) < ((l.filterMap id).length : Int) ↔ l.any Option.isSome = true := by
  rw [List.any_eq_true]
  constructor
  · intro h
    have : 0 < (l.filterMap id).length := by omega
    obtain ⟨k, hk⟩ := List.exists_mem_of_length_pos this
    obtain ⟨o, ho, e⟩ := List.mem_filterMap.mp hk
    exact ⟨o, ho, by rw [show o = some k from e]; rfl⟩
  · rintro ⟨o, ho, e⟩
    obtain ⟨k, rfl⟩ := Option.isSome_iff_exists.mp e
    have : k ∈ l.filterMap id := List.mem_filterMap.mpr ⟨some k, ho, rfl⟩
    have := List.length_pos_of_mem this
    omega
theorem arF_ne {n : Nat} {ds : List (Int × Int)} (hn : n ≤ 100) : ∀ l ∈ arF n ds, l ≠ [] ∧ l.length ≤ 100 := by
  intro l hl
  unfold arF at hl
  obtain ⟨p, hp, rfl⟩ := List.mem_map.mp hl
  have hpn := List.mem_range.mp hp
  constructor
  · intro e
    have : p ∈ nearF n ds p := by
      unfold nearF
      rw [List.mem_filter]
      exact ⟨hp, by simp [joinsB]⟩
    rw [e] at this
    cases this
  · unfold nearF
    have := List.length_filter_le (fun q : Nat => joinsB ds (p : Int) (q : Int)) (List.range n)
    rw [List.length_range] at this
    omega
theorem RkH.obj {P : Program} {w : World} {H : Hp} {a : Addr} {L : Rk} {b : Nat} (h : RkH P w H a L b) : ∃ xs, H a = some (dN P w a xs) := by
  obtain ⟨_, ⟨_, _, xs, h, _⟩, _⟩ := h
  exact ⟨xs, h⟩
/-- a dict of ranks, some thing else changes -/
theorem RkH.other {P : Program} {w : World} {H : Hp} {a l : Addr} {L : Rk} {b : Nat} {xs : List V} (h : RkH P w H a L b) (hl : H l = some (.lst xs)) (o : HO) : RkH P w (upd H l o) a L b := by
  obtain ⟨ks, ⟨h1, h2, ys, h3, h4⟩, hb, h5⟩ := h
  refine ⟨ks, ⟨h1, h2, ys, ?_, h4.ext fun c ys e => ?_⟩, hb, h5⟩
  · rw [upd_ne (ne_of h3 hl (by intro z; cases z))]
    exact h3
  · rw [upd_ne (ne_of e hl (by intro z; cases z))]
    exact e
theorem L0_snoc (ts : List (List Nat)) (cs : List Nat) (qs : List Nat) (p : Nat) (g : List Nat) (r : Nat) : (if (g, r) = (cs, p) then some 0 else if (g ∈ ts ∧ r ∈ g) ∨ (g = cs ∧ r ∈ qs) then some 0 else none) = if (g ∈ ts ∧ r ∈ g) ∨ (g = cs ∧ r ∈ qs ++ [p]) then some 0 else none := by
  by_cases e1 : (g, r) = (cs, p)
  · injection e1 with e1 e2
    subst e1 e2
    rw [if_pos rfl, if_pos (.inr ⟨rfl, by simp⟩)]
  · rw [if_neg e1]
    have : ((g ∈ ts ∧ r ∈ g) ∨ (g = cs ∧ r ∈ qs)) ↔ ((g ∈ ts ∧ r ∈ g) ∨ (g = cs ∧ r ∈ qs ++ [p])) := by
      constructor
      · rintro (h | ⟨h, h'⟩)
        · exact .inl h
        · exact .inr ⟨h, List.mem_append_left _ h'⟩
      · rintro (h | ⟨h, h'⟩)
        · exact .inl h
        · refine .inr ⟨h, ?_⟩
          rcases List.mem_append.mp h' with h'' | h''
          · exact h''
          · rw [List.mem_singleton] at h''
            exact absurd (by rw [h, h'']) e1
    by_cases c1 : (g ∈ ts ∧ r ∈ g) ∨ (g = cs ∧ r ∈ qs)
    · rw [if_pos c1, if_pos (this.mp c1)]
    · rw [if_neg c1, if_neg (fun z => c1 (this.mpr z))]
theorem L0_next (ts : List (List Nat)) (cs : List Nat) (g : List Nat) (r : Nat) : (if (g ∈ ts ∧ r ∈ g) ∨ (g = cs ∧ r ∈ cs) then some 0 else none) = L0F (ts ++ [cs]) g r := by
  unfold L0F
  have : ((g ∈ ts ∧ r ∈ g) ∨ (g = cs ∧ r ∈ cs)) ↔ (g ∈ ts ++ [cs] ∧ r ∈ g) := by
    rw [List.mem_append, List.mem_singleton]
    constructor
    · rintro (⟨h, h'⟩ | ⟨h, h'⟩)
      · exact ⟨.inl h, h'⟩
      · exact ⟨.inr h, h ▸ h'⟩
    · rintro ⟨h | h, h'⟩
      · exact .inl ⟨h, h'⟩
      · exact .inr ⟨h, h ▸ h'⟩
  by_cases c1 : (g ∈ ts ∧ r ∈ g) ∨ (g = cs ∧ r ∈ cs)
  · rw [if_pos c1, if_pos (this.mp c1)]
  · rw [if_neg c1, if_neg (fun z => c1 (this.mpr z))]
end CF

namespace CF
open PySem L2 PyProof.Rows
/-! ### what is a floor, in plain words -/
def ValP (n : Nat) (ps : List (Int × Int)) : Prop := ∀ p ∈ ps, 0 ≤ p.1 ∧ p.1 < p.2 ∧ p.2 < (n : Int)
/-- one place, and with it all -/
def Conn (n : Nat) (ps : List (Int × Int)) : Prop := ∀ S : Int → Prop, (∀ d ∈ ps, S d.1 ↔ S d.2) → ∀ x y : Int, 0 ≤ x → x < n → 0 ≤ y → y < n → S x → S y
structure FloOk (n : Nat) (ds : List (Int × Int)) : Prop where
  n1 : 1 ≤ n
  n6 : n ≤ 6
  srt : SrtP ds
  nd : ds.Nodup
  val : ValP n ds
  con : Conn n ds
  len : ds.length ≤ 100
/-! the mirror of what is reached is all -/
theorem addR_sub (R : List Int) (x : Int) : ∀ y ∈ R, y ∈ addR R x := fun y hy => by
  unfold addR
  split
  · exact hy
  · exact List.mem_append_left _ hy
theorem addR_mem (R : List Int) (x : Int) : x ∈ addR R x := by
  unfold addR
  split
  · assumption
  · simp
theorem addR_or {R : List Int} {x y : Int} (h : y ∈ addR R x) : y ∈ R ∨ y = x := by
  unfold addR at h
  split at h
  · exact .inl h
  · rcases List.mem_append.mp h with h | h
    · exact .inl h
    · exact .inr (List.mem_singleton.mp h)
theorem addR_nodup {R : List Int} (h : R.Nodup) (x : Int) : (addR R x).Nodup := by
  unfold addR
  split
  · exact h
  · rename_i c
    rw [List.nodup_append]
    refine ⟨h, by simp, fun a ha b hb e => ?_⟩
    rw [List.mem_singleton] at hb
    exact c (by rw [← hb, ← e]; exact ha)
theorem addR_le (R : List Int) (x : Int) : R.length ≤ (addR R x).length := by
  unfold addR
  split
  · exact Nat.le_refl _
  · simp
theorem addR_eq {R : List Int} {x : Int} (h : (addR R x).length = R.length) : x ∈ R := by
  unfold addR at h
  split at h
  · assumption
  · simp at h
theorem rStep_sub (R : List Int) (d : Int × Int) : ∀ y ∈ R, y ∈ rStep R d := fun y hy => by
  unfold rStep
  split
  · exact addR_sub _ _ _ (addR_sub _ _ _ hy)
  · exact hy
theorem rStep_nodup {R : List Int} (h : R.Nodup) (d : Int × Int) : (rStep R d).Nodup := by
  unfold rStep
  split
  · exact addR_nodup (addR_nodup h _) _
  · exact h
theorem rStep_le (R : List Int) (d : Int × Int) : R.length ≤ (rStep R d).length := by
  unfold rStep
  split
  · exact Nat.le_trans (addR_le _ _) (addR_le _ _)
  · exact Nat.le_refl _
theorem rStep_eq {R : List Int} {d : Int × Int} (h : (rStep R d).length = R.length) : rStep R d = R ∧ (d.1 ∈ R ↔ d.2 ∈ R) := by
  unfold rStep at h ⊢
  by_cases c : d.1 ∈ R ∨ d.2 ∈ R
  · rw [if_pos c] at h ⊢
    have h1 := addR_le R d.1
    have h2 := addR_le (addR R d.1) d.2
    have e1 : d.1 ∈ R := addR_eq (by omega)
    have e2 : addR R d.1 = R := by
      unfold addR
      rw [if_pos e1]
    rw [e2] at h ⊢
    have e3 : d.2 ∈ R := addR_eq h
    exact ⟨by unfold addR; rw [if_pos e3], ⟨fun _ => e3, fun _ => e1⟩⟩
  · rw [if_neg c]
    exact ⟨rfl, ⟨fun h => absurd (.inl h) c, fun h => absurd (.inr h) c⟩⟩
theorem rLap_le : ∀ (ds : List (Int × Int)) (R : List Int), R.length ≤ (rLap ds R).length
  | [], R => Nat.le_refl _
  | d :: ds, R => Nat.le_trans (rStep_le R d) (rLap_le ds (rStep R d))
theorem rLap_sub : ∀ (ds : List (Int × Int)) (R : List Int), ∀ y ∈ R, y ∈ rLap ds R
  | [], _, _, h => h
  | d :: ds, R, y, h => rLap_sub ds (rStep R d) y (rStep_sub R d y h)
theorem rLap_nodup : ∀ (ds : List (Int × Int)) {R : List Int}, R.Nodup → (rLap ds R).Nodup
  | [], _, h => h
  | d :: ds, _, h => rLap_nodup ds (rStep_nodup h d)
theorem rLap_eq : ∀ (ds : List (Int × Int)) {R : List Int}, (rLap ds R).length = R.length → rLap ds R = R ∧ ∀ d ∈ ds, d.1 ∈ R ↔ d.2 ∈ R
  | [], _, _ => ⟨rfl, fun d hd => by cases hd⟩
  | d :: ds, R, h => by
    have h1 := rStep_le R d
    have h2 := rLap_le ds (rStep R d)
    have h : (rLap ds (rStep R d)).length = R.length := h
    obtain ⟨e1, e2⟩ := rStep_eq (R := R) (d := d) (by omega)
    rw [e1] at h
    obtain ⟨e3, e4⟩ := rLap_eq ds h
    refine ⟨?_, fun d' hd' => ?_⟩
    · show rLap ds (rStep R d) = R
      rw [e1, e3]
    · rcases List.mem_cons.mp hd' with rfl | h'
      · exact e2
      · exact e4 d' h'
theorem rLap_in {n : Nat} : ∀ (ds : List (Int × Int)) {R : List Int}, ValP n ds → (∀ y ∈ R, 0 ≤ y ∧ y < n) → ∀ y ∈ rLap ds R, 0 ≤ y ∧ y < n
  | [], _, _, h => h
  | d :: ds, R, hv, h => by
    obtain ⟨v1, v2, v3⟩ := hv d List.mem_cons_self
    refine rLap_in (n := n) ds (fun p hp => hv p (List.mem_cons_of_mem _ hp)) fun y hy => ?_
    unfold rStep at hy
    split at hy
    · rcases addR_or hy with hy | hy
      · rcases addR_or hy with hy | hy
        · exact h y hy
        · omega
      · omega
    · exact h y hy
theorem nodup_sub {α : Type} [DecidableEq α] : ∀ {l1 l2 : List α}, l1.Nodup → (∀ x ∈ l1, x ∈ l2) → l1.length ≤ l2.length
  | [], _, _, _ => Nat.zero_le _
  | x :: l1, l2, h, hs => by
    obtain ⟨h1, h2⟩ := List.nodup_cons.mp h
    have hx := hs x List.mem_cons_self
    have := nodup_sub (l2 := l2.erase x) h2 fun y hy => (List.mem_erase_of_ne (fun e => h1 (by rw [← e]; exact hy))).mpr (hs y (List.mem_cons_of_mem _ hy))
    rw [List.length_erase_of_mem hx] at this
    have := List.length_pos_of_mem hx
    rw [List.length_cons]
    omega
theorem nodup_len {n : Nat} {R : List Int} (h : R.Nodup) (hi : ∀ y ∈ R, 0 ≤ y ∧ y < (n : Int)) : R.length ≤ n := by
  have h1 : (R.map Int.toNat).Nodup := List.pairwise_map.mpr (List.Pairwise.imp_of_mem (fun {a b} ha hb hab e => hab (by have := hi a ha; have := hi b hb; omega)) h)
  have h2 := (List.nodup_range (n := n))
  have h3 : (R.map Int.toNat).length ≤ (List.range n).length := by
    refine nodup_sub h1 fun k hk => ?_
    obtain ⟨y, hy, rfl⟩ := List.mem_map.mp hk
    have := hi y hy
    exact List.mem_range.mpr (by omega)
  simpa using h3
theorem nodup_all {n : Nat} {R : List Int} (hall : ∀ y : Int, 0 ≤ y → y < n → y ∈ R) : n ≤ R.length := by
  have h2 : (List.range n).length ≤ R.length := by
    have h0 : ((List.range n).map fun (k : Nat) => (k : Int)).Nodup := List.pairwise_map.mpr (List.Pairwise.imp (fun {a b} hab e => hab (by omega)) List.nodup_range)
    have := nodup_sub (l2 := R) h0 (fun y hy => by
      obtain ⟨k, hk, rfl⟩ := List.mem_map.mp hy
      have := List.mem_range.mp hk
      exact hall _ (by omega) (by omega))
    simpa using this
  simpa using h2
theorem reached_of {n : Nat} {ds : List (Int × Int)} (hn : 1 ≤ n) (hv : ValP n ds) (hc : Conn n ds) : reachedB n ds = true := by
  have key : ∀ k, (rLaps ds k).Nodup ∧ (∀ y ∈ rLaps ds k, 0 ≤ y ∧ y < (n : Int)) ∧ (0 : Int) ∈ rLaps ds k ∧ ((rLaps ds k).length = n ∨ k + 1 ≤ (rLaps ds k).length) := fun k => by
    induction k with
    | zero => exact ⟨by simp [rLaps], fun y hy => by simp [rLaps] at hy; omega, by simp [rLaps], .inr (by simp [rLaps])⟩
    | succ k ih =>
      obtain ⟨h1, h2, h3, h4⟩ := ih
      have n1 : (rLaps ds (k + 1)).Nodup := rLap_nodup ds h1
      have n2 : ∀ y ∈ rLaps ds (k + 1), 0 ≤ y ∧ y < (n : Int) := rLap_in (n := n) ds hv h2
      refine ⟨n1, n2, rLap_sub ds _ _ h3, ?_⟩
      have hle := rLap_le ds (rLaps ds k)
      by_cases c : (rLap ds (rLaps ds k)).length = (rLaps ds k).length
      · obtain ⟨e1, e2⟩ := rLap_eq ds c
        left
        have hall : ∀ y : Int, 0 ≤ y → y < n → y ∈ rLaps ds k := fun y hy hy' => hc (fun z => z ∈ rLaps ds k) e2 0 y (by omega) (by omega) hy hy' h3
        have h5 := nodup_all hall
        have h6 := nodup_len h1 h2
        show (rLap ds (rLaps ds k)).length = n
        omega
      · have h6 := nodup_len n1 n2
        have h6 : (rLap ds (rLaps ds k)).length ≤ n := h6
        have hh : (rLaps ds (k + 1)).length = (rLap ds (rLaps ds k)).length := rfl
        omega
  obtain ⟨h1, h2, _, h4⟩ := key n
  have h5 := nodup_len h1 h2
  unfold reachedB
  rw [beq_iff_eq]
  omega
theorem FloOk.floorB {n : Nat} {ds : List (Int × Int)} (h : FloOk n ds) : floorB (n : Int) ds = true := by
  have h1 := h.n1
  have h6 := h.n6
  unfold CF.floorB
  rw [decide_eq_true (by omega : (1 : Int) ≤ n), decide_eq_true (by omega : (n : Int) ≤ 6), Int.toNat_natCast, reached_of h.n1 h.val h.con]
  rw [Bool.and_true, Bool.true_and, Bool.true_and]
  unfold goodB
  rw [List.all_eq_true]
  intro k hk
  have hk := List.mem_range.mp hk
  unfold goodAt
  rw [List.getElem?_eq_getElem hk]
  obtain ⟨v1, v2, v3⟩ := h.val _ (List.getElem_mem hk)
  show (decide (0 ≤ ds[k].1) && decide (ds[k].1 < ds[k].2) && decide (ds[k].2 < (n : Int)) && prevB ds ds[k] k) = true
  rw [decide_eq_true v1, decide_eq_true v2, decide_eq_true v3]
  simp only [Bool.true_and]
  cases k with
  | zero => rfl
  | succ j =>
    have e : prevB ds ds[j + 1] (j + 1) = !geP ds[j] ds[j + 1] := by
      show (match ds[j]? with | some c => !geP c ds[j + 1] | none => false) = _
      rw [List.getElem?_eq_getElem (by omega)]
    rw [e]
    have hs := h.srt
    have hne : ds[j] ≠ ds[j + 1] := fun e => by
      have := (List.getElem_inj h.nd).mp e
      omega
    have hs2 := List.pairwise_iff_getElem.mp hs j (j + 1) (by omega) hk (by omega)
    generalize ds[j] = p at hne hs2
    generalize ds[j + 1] = q at hne hs2
    have hs2 : (if q.1 = p.1 then decide (q.2 < p.2) else decide (q.1 < p.1)) = false := hs2
    have hne2 : ¬ (p.1 = q.1 ∧ p.2 = q.2) := fun e => hne (Prod.ext e.1 e.2)
    unfold geP
    by_cases c : p.1 = q.1
    · rw [if_pos c.symm, decide_eq_false_iff_not] at hs2
      rw [if_pos c, decide_eq_false (by omega)]
      rfl
    · rw [if_neg (fun z => c z.symm), decide_eq_false_iff_not] at hs2
      rw [if_neg c, decide_eq_false (by omega)]
      rfl
end CF

namespace CF
open PySem L2 PyProof.Rows
/-! ### doors in a dict -/
def addP (ps : List (Int × Int)) (p : Int × Int) : List (Int × Int) := if p ∈ ps then ps else ps ++ [p]
def pD (ps : List (Int × Int)) : List (List Key × V) := ps.map fun p => (kyP p, V.bl true)
theorem kyP_inj {p q : Int × Int} (h : kyP p = kyP q) : p = q := by
  unfold kyP at h
  injection h with h1 h2
  injection h2 with h2 _
  exact Prod.ext (Sum.inl.inj h1) (Sum.inl.inj h2)
theorem pD_val (p : Int × Int) : ∀ ps : List (Int × Int), valV (pD ps) (kyP p) = if p ∈ ps then some (.bl true) else none
  | [] => rfl
  | y :: R => by
    have ih := pD_val p R
    unfold pD at ih ⊢
    rw [List.map_cons]
    by_cases e : y = p
    · subst e
      rw [valV_pos rfl, if_pos List.mem_cons_self]
    · have e' : ¬ kyP y = kyP p := fun z => e (kyP_inj z)
      rw [valV_neg e', ih]
      have : (p ∈ y :: R) ↔ p ∈ R := by
        rw [List.mem_cons]
        constructor
        · rintro (h | h)
          · exact absurd h.symm e
          · exact h
        · exact .inr
      by_cases c : p ∈ R
      · rw [if_pos c, if_pos (this.mpr c)]
      · rw [if_neg c, if_neg (fun z => c (this.mp z))]
theorem pD_isSome (x : Int × Int) (R : List (Int × Int)) : (valV (pD R) (kyP x)).isSome = decide (x ∈ R) := by
  rw [pD_val]
  by_cases c : x ∈ R
  · rw [if_pos c, decide_eq_true c]
    rfl
  · rw [if_neg c, decide_eq_false c]
    rfl
theorem pD_put (x : Int × Int) (R : List (Int × Int)) : putK (pD R) (kyP x) (.bl true) = pD (addP R x) := by
  unfold putK addP
  rw [valV_any, pD_isSome]
  by_cases c : x ∈ R
  · rw [if_pos c, if_pos (decide_eq_true c)]
    unfold pD
    rw [List.map_map]
    refine List.map_congr_left fun y _ => ?_
    show (if kyP y = kyP x then _ else _) = _
    split <;> rfl
  · rw [if_neg c, if_neg (by simpa using c)]
    unfold pD
    rw [List.map_append]
    rfl
theorem pD_keys (ps : List (Int × Int)) : (pD ps).map (·.1) = ps.map kyP := by
  unfold pD
  rw [List.map_map]
  rfl
theorem pD_len (ps : List (Int × Int)) : (pD ps).length = ps.length := List.length_map ..
theorem addP_sub (R : List (Int × Int)) (x : Int × Int) : ∀ y ∈ R, y ∈ addP R x := fun y hy => by
  unfold addP
  split
  · exact hy
  · exact List.mem_append_left _ hy
theorem addP_mem (R : List (Int × Int)) (x : Int × Int) : x ∈ addP R x := by
  unfold addP
  split
  · assumption
  · simp
theorem addP_or {R : List (Int × Int)} {x y : Int × Int} (h : y ∈ addP R x) : y ∈ R ∨ y = x := by
  unfold addP at h
  split at h
  · exact .inl h
  · rcases List.mem_append.mp h with h | h
    · exact .inl h
    · exact .inr (List.mem_singleton.mp h)
theorem addP_nodup {R : List (Int × Int)} (h : R.Nodup) (x : Int × Int) : (addP R x).Nodup := by
  unfold addP
  split
  · exact h
  · rename_i c
    rw [List.nodup_append]
    refine ⟨h, by simp, fun a ha b hb e => ?_⟩
    rw [List.mem_singleton] at hb
    exact c (by rw [← hb, ← e]; exact ha)
theorem addP_len (R : List (Int × Int)) (x : Int × Int) : (addP R x).length ≤ R.length + 1 := by
  unfold addP
  split
  · omega
  · simp
theorem ValP.add {n : Nat} {R : List (Int × Int)} {x : Int × Int} (h : ValP n R) (h1 : 0 ≤ x.1) (h2 : x.1 < x.2) (h3 : x.2 < (n : Int)) : ValP n (addP R x) := fun p hp => by
  rcases addP_or hp with hp | rfl
  · exact h p hp
  · exact ⟨h1, h2, h3⟩
/-! ### trees join -/
def Tree (n : Nat) (ps : List (Int × Int)) : Prop := ∀ q : Int, 1 ≤ q → q < n → ∃ p ∈ ps, p.2 = q ∧ 0 ≤ p.1 ∧ p.1 < q
theorem Tree.mono {n : Nat} {ps qs : List (Int × Int)} (h : Tree n ps) (hs : ∀ p ∈ ps, p ∈ qs) : Tree n qs := fun q h1 h2 => by
  obtain ⟨p, hp, r⟩ := h q h1 h2
  exact ⟨p, hs p hp, r⟩
theorem Tree.conn {n : Nat} {ps : List (Int × Int)} (h : Tree n ps) : Conn n ps := by
  intro S hS
  have key : ∀ m : Nat, m < n → (S (m : Int) ↔ S 0) := fun m => by
    induction m using Nat.strongRecOn with
    | _ m ih =>
      intro hm
      by_cases c : m = 0
      · subst c
        exact Iff.rfl
      · obtain ⟨p, hp, e, h1, h2⟩ := h m (by omega) (by omega)
        have h3 := hS p hp
        rw [e] at h3
        have h4 := ih p.1.toNat (by omega) (by omega)
        rw [show ((p.1.toNat : Nat) : Int) = p.1 by omega] at h4
        exact h3.symm.trans h4
  intro x y hx hx' hy hy' sx
  have k1 := key x.toNat (by omega)
  have k2 := key y.toNat (by omega)
  rw [show ((x.toNat : Nat) : Int) = x by omega] at k1
  rw [show ((y.toNat : Nat) : Int) = y by omega] at k2
  exact k2.mpr (k1.mp sx)
theorem Conn.mono {n : Nat} {ps qs : List (Int × Int)} (h : Conn n ps) (hs : ∀ p ∈ ps, p ∈ qs) : Conn n qs := fun S hS => h S fun d hd => hS d (hs d hd)
def revP (n : Nat) (p : Int × Int) : Int × Int := ((n : Int) - 1 - p.2, (n : Int) - 1 - p.1)
theorem Conn.rev {n : Nat} {ps : List (Int × Int)} (h : Conn n ps) : Conn n (ps.map (revP n)) := fun S hS x y hx hx' hy hy' sx => by
  have := h (fun z => S ((n : Int) - 1 - z)) (fun d hd => (hS _ (List.mem_map.mpr ⟨d, hd, rfl⟩)).symm) ((n : Int) - 1 - x) ((n : Int) - 1 - y) (by omega) (by omega) (by omega) (by omega)
    (by rw [show (n : Int) - 1 - ((n : Int) - 1 - x) = x by omega]; exact sx)
  rwa [show (n : Int) - 1 - ((n : Int) - 1 - y) = y by omega] at this
theorem ValP.rev {n : Nat} {ps : List (Int × Int)} (h : ValP n ps) : ValP n (ps.map (revP n)) := fun p hp => by
  obtain ⟨q, hq, rfl⟩ := List.mem_map.mp hp
  obtain ⟨h1, h2, h3⟩ := h q hq
  unfold revP
  exact ⟨by show (0 : Int) ≤ n - 1 - q.2; omega, by show (n : Int) - 1 - q.2 < n - 1 - q.1; omega, by show (n : Int) - 1 - q.1 < n; omega⟩
theorem rev_nodup {n : Nat} {ps : List (Int × Int)} (h : ps.Nodup) : (ps.map (revP n)).Nodup := List.pairwise_map.mpr (List.Pairwise.imp (fun {a b} hab e => hab (by
  unfold revP at e
  injection e with e1 e2
  exact Prod.ext (by omega) (by omega))) h)
def ringP (n : Nat) : List (Int × Int) := ((List.range (n - 1)).map fun (k : Nat) => ((k : Int), (k : Int) + 1)) ++ [(0, (n : Int) - 1)]
theorem ring_val {n : Nat} (hn : 3 ≤ n) : ValP n (ringP n) := fun p hp => by
  rcases List.mem_append.mp hp with h | h
  · obtain ⟨k, hk, rfl⟩ := List.mem_map.mp h
    have := List.mem_range.mp hk
    exact ⟨by show (0 : Int) ≤ k; omega, by show (k : Int) < k + 1; omega, by show (k : Int) + 1 < n; omega⟩
  · rw [List.mem_singleton] at h
    subst h
    exact ⟨by show (0 : Int) ≤ 0; decide, by show (0 : Int) < n - 1; omega, by show (n : Int) - 1 < n; omega⟩
theorem ring_nodup {n : Nat} (hn : 3 ≤ n) : (ringP n).Nodup := by
  unfold ringP
  rw [List.nodup_append]
  refine ⟨List.pairwise_map.mpr (List.Pairwise.imp (fun {a b} hab e => hab (by injection e with e1 e2; omega)) List.nodup_range), by simp, fun a ha b hb e => ?_⟩
  rw [List.mem_singleton] at hb
  obtain ⟨k, hk, rfl⟩ := List.mem_map.mp ha
  subst hb
  injection e with e1 e2
  have := List.mem_range.mp hk
  omega
theorem ring_tree {n : Nat} : Tree n (ringP n) := fun q h1 h2 => by
  refine ⟨(q - 1, q), List.mem_append_left _ (List.mem_map.mpr ⟨(q - 1).toNat, List.mem_range.mpr (by omega), ?_⟩), rfl, by show (0 : Int) ≤ q - 1; omega, by show q - 1 < q; omega⟩
  exact Prod.ext (by show (((q - 1).toNat : Nat) : Int) = q - 1; omega) (by show (((q - 1).toNat : Nat) : Int) + 1 = q; omega)
theorem FloOk.of {n : Nat} {ps qs : List (Int × Int)} (h1 : 1 ≤ n) (h6 : n ≤ 6) (hs : SrtP qs) (hp : qs.Perm ps) (nd : ps.Nodup) (val : ValP n ps) (con : Conn n ps) (hl : ps.length ≤ 100) : FloOk n qs :=
  ⟨h1, h6, hs, hp.nodup_iff.mpr nd, fun p h => val p (hp.mem_iff.mp h), con.mono fun p h => hp.mem_iff.mpr h, by rw [hp.length_eq]; exact hl⟩
/-- the law's floor -/
def spLFloor (K : PySem.W.Frag) : Sp := fun vs H Q _ => ∃ (F : Hp) (a : Addr) (sc : List Int) (most : Nat), vs = [.ref a, nv most] ∧ Same F H ∧ ScrAt K F a sc ∧ 3 ≤ most ∧ most ≤ 6 ∧
  ∀ F' H' n ds t l, Grow F H F' H' → FloOk n ds → n ≤ most → F' t = some (.tup [nv n, l]) → PairL F' l ds → Q (.ref t) H'
/-- chasers and a runner -/
def spLStand (K : PySem.W.Frag) : Sp := fun vs H Q _ => ∃ (F : Hp) (a : Addr) (sc : List Int) (at_ n c : Nat), vs = [.ref a, nv at_, nv n, nv c] ∧ Same F H ∧ ScrAt K F a sc ∧ 1 ≤ n ∧ c ≤ 100 ∧
  ∀ F' H' t l cs r, Grow F H F' H' → cs.length = c → (∀ p ∈ cs, p < n) → r < n → F' t = some (.tup [l, nv r]) → NatL F' l cs → (∃ b, l = .ref b ∧ H b = none) → Q (.ref t) H'
/-- pairs of the heap come into the view -/
theorem grow_prs {G H F H' : Hp} {ys : List V} {ps : List (Int × Int)} (g : Grow G H F H') (h : Paired (PairT H') ys ps) : ∃ F', Grow G H F' H' ∧ Same F F' ∧ Paired (PairT F') ys ps := by
  induction h with
  | nil => exact ⟨F, g, Same.refl _, .nil⟩
  | @cons y p ys ps r _ ih =>
    obtain ⟨F1, g1, s1, p1⟩ := ih
    obtain ⟨t, rfl, e⟩ := r
    have s2 := Grow.tupl_ss g1.sub e
    exact ⟨upd F1 t (.tup [.int p.1, .int p.2]), g1.tupl e, s1.trans s2, .cons ⟨t, rfl, upd_same⟩ (paired_ext (fun _ _ h => h.ext s2) p1)⟩
theorem emod_nat (x : Int) {n : Nat} (h : 1 ≤ n) : ∃ k : Nat, x % (n : Int) = k ∧ k < n := by
  have h1 := Int.emod_nonneg x (b := (n : Int)) (by omega)
  have h2 := Int.emod_lt_of_pos x (b := (n : Int)) (by omega)
  exact ⟨(x % (n : Int)).toNat, by omega, by omega⟩
/-- a turn over pairs, without a test -/
theorem cs_yesP {K : PySem.W.Frag} {te : TE} {vs : List Nat} {σ : L2.St} {t : Addr} {H : Hp} {Q : Option V → Hp → Prop} {i j : Nat} {p : Int × Int} (ht : H t = some (.tup [.int p.1, .int p.2]))
    (h : te (((wipe σ vs).set i (some (.int p.1))).set j (some (.int p.2))) H fun y H4 => Q (some y) H4) (hw : wipe (((wipe σ vs).set i (some (.int p.1))).set j (some (.int p.2))) vs = wipe σ vs := by rfl) :
    CStep (gTup K 2 (gCons (gName i) (gCons (gName j) gNil))) tYes te vs σ (.ref t) H Q := by
  refine ⟨t, _, rfl, SqT.of ht, rfl, _, _, rfl, _, _, rfl, rfl, hw, ?_⟩
  show if true = true then (te (((wipe σ vs).set i (some (.int p.1))).set j (some (.int p.2))) H fun y H4 => Q (some y) H4) else Q none H
  exact iteT h
def spWhole : Sp := fun vs H Q _ => ∃ i : Int, vs = [.int i] ∧ Q (.bl true) H
end CF

namespace CF
open PySem L2 PyProof.Rows
/-! ### a floor is made -/
structure MkF (P : Program) (w : World) (K : PySem.W.Frag) (mg : Str → Option Value) (base : Heap) (C CN : Addr) : Prop where
  ex : ∃ (f : Addr) (fd : FuncData), Mk K C f ∧ FnOk P w K mg base (L2N.CX P w) 2 f fd ["self", "places", "doors"] (spInit C CN) ∧ Binds K fd ["self", "places", "doors"] []
section
variable {X : Cx} {C CN : Addr} {j : Nat} {p pos : Pos} {e1 e2 : Expr} {ta : TA}
theorem pe_mkF (M : MkF X.prog X.w X.K X.mg X.base C CN) (g : X.mg "Floor" = some (.ref C)) (hr : Room j X.A) (hg : Gl X "Floor") (ha : PA X (e1 :: [e2]) ta) (hk : 3 ≤ j := by decide)
    (he : starEach (e1 :: [e2]) X.env = (false, eval e1 X.env) :: starEach [e2] X.env := by rfl) (hpl : (backTo pos (starEach [e2] X.env)).any (·.1) = false := by rfl) :
    PE X (.Call (.Name "Floor" p) (e1 :: [e2]) [] pos) (tMake C (spInit C CN) [] E0 ta) := by
  obtain ⟨f, fd, m, F, b⟩ := M.ex
  exact pe_make m F (hr.mono hk) hg g b .nil passN ha (by decide) he hpl
end
theorem mk_floor {G H F H1 : Hp} {n : Nat} {ds : List (Int × Int)} {v : V} {C CN x dx : Addr} {Q : VK} {E : XK} (g : Grow G H F H1) (hds : PairL F v ds) (fl : floorB (n : Int) ds = true) (hl : ds.length ≤ 1000) (hx : H1 x = none) (hdx : H1 dx = none) (_ : dx ≠ x)
    (q : ∀ F' H', Grow G H F' H' → Same F F' → FlrAt C F' (.ref x) n ds → Q .non H') : spInit C CN (.ref x :: ([nv n, v] ++ [])) (upd (upd H1 dx (.own x)) x (.ins C dx [])) Q E := by
  have s1 : Same H1 (upd (upd H1 dx (.own x)) x (.ins C dx [])) := fun b o e => by
    rw [upd_ne (ne_of_none e hx), upd_ne (ne_of_none e hdx)]
    exact e
  have hFx : F x = none := g.sub.free hx
  refine ⟨F, x, dx, (n : Int), v, ds, rfl, g.sub.trans s1, hFx, upd_same, hds, hl, fun _ d ys H' hd kp hx' hd' hp => ?_, fun z => by rw [fl] at z; cases z⟩
  have hd1 : H1 d = none := s1.free hd
  have hFd : F d = none := g.sub.free hd1
  have ndx : d ≠ x := fun e => by
    rw [e] at hd
    rw [upd_same] at hd
    cases hd
  have s2 : Same F (upd (upd F d (.lst ys)) x (.ins C dx (flds (n : Int) d))) := (same_new _ hFd).trans (same_new _ (by rw [upd_ne ndx.symm]; exact hFx))
  refine q (upd (upd F d (.lst ys)) x (.ins C dx (flds (n : Int) d))) H' ⟨g.ss.trans s2, fun b o e => ?_, fun b o e => ?_, fun b o e => ?_⟩ s2 ⟨x, dx, d, rfl, upd_same, d, ys, rfl, by rw [upd_ne ndx]; exact upd_same, paired_ext (fun _ _ h => h.ext s2) hp⟩
  · by_cases c : b = x
    · subst c
      rw [upd_same] at e
      rw [← e]
      exact hx'
    · rw [upd_ne c] at e
      by_cases c2 : b = d
      · subst c2
        rw [upd_same] at e
        rw [← e]
        exact hd'
      · rw [upd_ne c2] at e
        exact kp b o (s1 _ _ (g.sub _ _ e)) c
  · have e1 := g.keep _ _ e
    exact kp b o (s1 _ _ e1) (ne_of_none e1 hx)
  · by_cases c : b = x
    · subst c
      exact .inr (.inl (g.keep.free hx))
    · rw [upd_ne c] at e
      by_cases c2 : b = d
      · subst c2
        exact .inr (.inl (g.keep.free hd1))
      · rw [upd_ne c2] at e
        exact g.new b o e
/-! ### lists of whole numbers as data -/
def dIs (is : List Int) : List PyData := is.map PyData.int
theorem dIs_eqv : ∀ is js : List Int, PyData.eqvAll (dIs is) (dIs js) = decide (is = js)
  | [], [] => by simp [dIs, PyData.eqvAll]
  | [], j :: js => by simp [dIs, PyData.eqvAll]
  | i :: is, [] => by simp [dIs, PyData.eqvAll]
  | i :: is, j :: js => by
    have ih := dIs_eqv is js
    unfold dIs at ih ⊢
    simp [PyData.eqvAll, PyData.eqv, ih, Bool.beq_eq_decide_eq, Bool.decide_and]
theorem dIs_lay : ∀ is : List Int, PyData.canLayAll0 (dIs is) = true
  | [] => rfl
  | i :: is => by
    have ih := dIs_lay is
    unfold dIs at ih ⊢
    rw [List.map_cons, PyData.canLayAll0, ih]
    simp [PyData.canLay0]
theorem dIs_depth : ∀ is : List Int, PyData.depthAll (dIs is) = 0
  | [] => by simp [dIs, PyData.depthAll]
  | i :: is => by
    have ih := dIs_depth is
    unfold dIs at ih ⊢
    rw [List.map_cons, PyData.depthAll, ih]
    simp [PyData.depth]
theorem dIs_shaped (is : List Int) : SeqAt.shaped (.list (dIs is)) = true := by
  have h1 := dIs_lay is
  have h2 := dIs_depth is
  simp only [SeqAt.shaped, PyData.canLay0, PyData.depth, h1, h2, Bool.true_and]
  exact decide_eq_true (by omega)
theorem dIs_dpAll {K : PySem.W.Frag} {H : Hp} : ∀ is : List Int, DpAll K H (intsV is) (dIs is)
  | [] => .nil
  | i :: is => .cons (.int i) (dIs_dpAll is)
theorem dIs_dp {K : PySem.W.Frag} {H : Hp} {a : Addr} {is : List Int} (h : SqL K H a (intsV is)) : Dp K H (.ref a) (.list (dIs is)) := .lst h (dIs_dpAll is)
theorem dIs_eqL (is js : List Int) : PyData.eqv (.list (dIs is)) (.list (dIs js)) = decide (is = js) := by
  rw [← dIs_eqv]
  simp [PyData.eqv]
/-- a law's promise -/
def spLaw (K : PySem.W.Frag) : Sp := fun vs H Q _ => ∃ (a : Addr) (ns : List Int), vs = [.ref a] ∧ SqL K H a (ns.map V.int) ∧ ns.length ≤ 63 ∧ ∀ H', Q (.bl true) H'
/-- the laps end within forty -/
def Forty (n : Nat) (ds : List (Int × Int)) (c : Nat) : Prop := moreF (arF n ds) (lapN n ds c 40) (ksF (arF n ds) (cssF n c)) = []
theorem standB_of {n : Nat} {cs : List Nat} {r : Nat} (h1 : 1 ≤ cs.length) (h2 : cs.length ≤ 2) (h3 : ∀ p ∈ cs, p < n) (h4 : r < n) : standB n (asI cs) r = true := by
  unfold standB
  rw [asI_len, decide_eq_true h1, decide_eq_true h2, Bool.true_and, Bool.true_and, List.all_eq_true]
  intro i hi
  rcases List.mem_append.mp hi with h | h
  · unfold asI at h
    obtain ⟨p, hp, rfl⟩ := List.mem_map.mp h
    have := h3 p hp
    rw [decide_eq_true (by omega : (0 : Int) ≤ (p : Int)), decide_eq_true (by omega : (p : Int) < (n : Int))]
    rfl
  · rw [List.mem_singleton] at h
    subst h
    rw [decide_eq_true (by omega : (0 : Int) ≤ (r : Int)), decide_eq_true (by omega : (r : Int) < (n : Int))]
    rfl
end CF

namespace CF
open PySem L2 PyProof.Rows
/-! ### the laps end within forty -/
theorem forty_few {n : Nat} {ds : List (Int × Int)} {c : Nat} (h : unr n (cssF n c) (L0F (cssF n c)) ≤ 40) : Forty n ds c := by
  by_cases hall : ∀ s, s < 41 → moreF (arF n ds) (lapN n ds c s) (ksF (arF n ds) (cssF n c)) ≠ []
  · have := lap_unr 41 hall
    omega
  · obtain ⟨s, hs⟩ := Classical.not_forall.mp hall
    obtain ⟨hs1, hs2⟩ := Classical.not_imp.mp hs
    have hs2 := Classical.not_not.mp hs2
    have e := lap_stay hs2 (40 - s)
    rw [show s + (40 - s) = 40 by omega] at e
    unfold Forty
    rw [e]
    exact hs2
theorem unr_one {n : Nat} (h : n ≤ 6) : unr n (cssF n 1) (L0F (cssF n 1)) ≤ 40 := by
  have : n = 0 ∨ n = 1 ∨ n = 2 ∨ n = 3 ∨ n = 4 ∨ n = 5 ∨ n = 6 := by omega
  rcases this with rfl | rfl | rfl | rfl | rfl | rfl | rfl <;> decide +kernel
theorem unr_two {n : Nat} (h : n ≤ 4) : unr n (cssF n 2) (L0F (cssF n 2)) ≤ 40 := by
  have : n = 0 ∨ n = 1 ∨ n = 2 ∨ n = 3 ∨ n = 4 := by omega
  rcases this with rfl | rfl | rfl | rfl | rfl <;> decide +kernel
/-! a rank once had stays -/
theorem moreF_mem {ar : List (List Nat)} {L : Rk} {css : List (List Nat)} {g : List Nat} {r : Nat} : (g, r) ∈ moreF ar L (ksF ar css) ↔ g ∈ css ∧ r < ar.length ∧ L g r = none ∧ winB ar L (glF ar g) r = true := by
  rw [moreF_filter, List.mem_filter, List.mem_flatMap]
  constructor
  · rintro ⟨⟨cs, hcs, h1⟩, h2⟩
    obtain ⟨r', hr', e⟩ := List.mem_map.mp h1
    injection e with e1 e2
    subst e1 e2
    simp only [Bool.and_eq_true, Option.isNone_iff_eq_none] at h2
    exact ⟨hcs, List.mem_range.mp hr', h2.1, h2.2⟩
  · rintro ⟨h1, h2, h3, h4⟩
    refine ⟨⟨g, h1, List.mem_map.mpr ⟨r, List.mem_range.mpr h2, rfl⟩⟩, ?_⟩
    show ((L g r).isNone && winB ar L (glF ar g) r) = true
    rw [h3, h4]
    rfl
theorem lap_keep {n : Nat} {ds : List (Int × Int)} {c t : Nat} {g : List Nat} {r k : Nat} (h : lapN n ds c t g r = some k) : lapN n ds c (t + 1) g r = some k := by
  show upL (lapN n ds c t) (moreF (arF n ds) (lapN n ds c t) (ksF (arF n ds) (cssF n c))) (t + 1) g r = some k
  unfold upL
  rw [if_neg (fun z => by
    have := (moreF_mem.mp z).2.2.1
    rw [h] at this
    cases this), h]
theorem lap_keeps {n : Nat} {ds : List (Int × Int)} {c t : Nat} {g : List Nat} {r : Nat} (h : (lapN n ds c t g r).isSome = true) : (lapN n ds c (t + 1) g r).isSome = true := by
  obtain ⟨k, hk⟩ := Option.isSome_iff_exists.mp h
  rw [lap_keep hk]
  rfl
theorem lap_keepj {n : Nat} {ds : List (Int × Int)} {c t : Nat} {g : List Nat} {r k : Nat} (h : lapN n ds c t g r = some k) : ∀ j, lapN n ds c (t + j) g r = some k
  | 0 => h
  | j + 1 => lap_keep (lap_keepj h j)
/-- one goes there and wins -/
theorem lap_win {n : Nat} {ds : List (Int × Int)} {c t : Nat} {cs g : List Nat} {r : Nat} (hcs : cs ∈ cssF n c) (hr : r < n) (hg : g ∈ glF (arF n ds) cs) (hb : (behF ((arF n ds).getD r []) (lapN n ds c t) g r).isSome = true) : (lapN n ds c (t + 1) cs r).isSome = true := by
  cases hL : lapN n ds c t cs r with
  | some k => exact lap_keeps (by rw [hL]; rfl)
  | none =>
    show (upL (lapN n ds c t) (moreF (arF n ds) (lapN n ds c t) (ksF (arF n ds) (cssF n c))) (t + 1) cs r).isSome = true
    unfold upL
    rw [if_pos (moreF_mem.mpr ⟨hcs, by rw [arF_len]; exact hr, hL, List.any_eq_true.mpr ⟨g, hg, hb⟩⟩)]
    rfl
theorem arF_get {n : Nat} {ds : List (Int × Int)} {p : Nat} (hp : p < n) : (arF n ds).getD p [] = nearF n ds p := by simp [arF, hp]
theorem nearF_mem {n : Nat} {ds : List (Int × Int)} {p q : Nat} : q ∈ nearF n ds p ↔ q < n ∧ joinsB ds p q = true := by
  unfold nearF
  rw [List.mem_filter, List.mem_range]
theorem joins_refl (ds : List (Int × Int)) (p : Int) : joinsB ds p p = true := by simp [joinsB]
theorem behF_in {nr : List Nat} {L : Rk} {g : List Nat} {r : Nat} (h : r ∈ g) : behF nr L g r = some 0 := by
  unfold behF
  rw [if_pos h]
theorem behF_all {nr : List Nat} {L : Rk} {g : List Nat} {r : Nat} (h : ∀ p ∈ nr, (L g p).isSome = true) : (behF nr L g r).isSome = true := by
  unfold behF
  split
  · rfl
  · obtain ⟨M, e, _⟩ := behAll L g nr 0 h
    rw [e]
    rfl
/-- where can two go -/
theorem glF_two {ar : List (List Nat)} {x y : Nat} {g : List Nat} : g ∈ glF ar [x, y] ↔ ∃ p ∈ ar.getD x [], ∃ q ∈ ar.getD y [], g = [p, q] := by
  unfold glF goF
  rw [List.map_cons, List.map_cons, List.map_nil, List.foldl_cons, List.foldl_cons, List.foldl_nil, goStep_mem]
  constructor
  · rintro ⟨s', h1, m, h2, rfl⟩
    obtain ⟨s0, h3, m0, h4, rfl⟩ := goStep_mem.mp h1
    rw [List.mem_singleton] at h3
    subst h3
    exact ⟨m0, h4, m, h2, rfl⟩
  · rintro ⟨p, hp, q, hq, rfl⟩
    exact ⟨[p], goStep_mem.mpr ⟨[], by simp, p, hp, rfl⟩, q, hq, rfl⟩
theorem glF_one {ar : List (List Nat)} {x : Nat} {g : List Nat} : g ∈ glF ar [x] ↔ ∃ p ∈ ar.getD x [], g = [p] := by
  unfold glF goF
  rw [List.map_cons, List.map_nil, List.foldl_cons, List.foldl_nil, goStep_mem]
  constructor
  · rintro ⟨s', h1, m, h2, rfl⟩
    rw [List.mem_singleton] at h1
    subst h1
    exact ⟨m, h2, rfl⟩
  · rintro ⟨p, hp, rfl⟩
    exact ⟨[], by simp, p, hp, rfl⟩
/-! what spreads comes everywhere -/
theorem spread {n : Nat} {ds : List (Int × Int)} (hv : ValP n ds) (hc : Conn n ds) (S : Nat → Nat → Bool) (mono : ∀ t x, S t x = true → S (t + 1) x = true)
    (step : ∀ t, ∀ d ∈ ds, (S t d.1.toNat = true → S (t + 1) d.2.toNat = true) ∧ (S t d.2.toNat = true → S (t + 1) d.1.toNat = true)) {a t0 : Nat} (ha : a < n) (h0 : S t0 a = true) : ∀ x, x < n → S (t0 + n) x = true := by
  have full : ∀ t, ((List.range n).filter (S t)).length = n → ∀ x, x < n → S t x = true := fun t e x hx => by
    have : (List.range n).filter (S t) = List.range n := List.filter_eq_self.mpr (by
      have := List.filter_sublist (l := List.range n) (p := S t)
      have := this.eq_of_length (by rw [e, List.length_range])
      exact List.filter_eq_self.mp this)
    exact List.filter_eq_self.mp this x (List.mem_range.mpr hx)
  have key : ∀ k, ((List.range n).filter (S (t0 + k))).length = n ∨ k + 1 ≤ ((List.range n).filter (S (t0 + k))).length := fun k => by
    induction k with
    | zero =>
      right
      have : a ∈ (List.range n).filter (S (t0 + 0)) := List.mem_filter.mpr ⟨List.mem_range.mpr ha, h0⟩
      exact List.length_pos_of_mem this
    | succ k ih =>
      have hs := filter_split (S (t0 + k + 1)) (S (t0 + k)) (List.range n)
      have e1 : (List.range n).filter (fun x => S (t0 + k + 1) x && S (t0 + k) x) = (List.range n).filter (S (t0 + k)) := List.filter_congr fun x _ => by
        cases e : S (t0 + k) x with
        | false => rw [Bool.and_false]
        | true => rw [mono _ _ e]; rfl
      rw [e1] at hs
      have hle := List.length_filter_le (S (t0 + k + 1)) (List.range n)
      rw [List.length_range] at hle
      rcases Nat.eq_zero_or_pos ((List.range n).filter fun x => S (t0 + k + 1) x && !S (t0 + k) x).length with z | z
      · left
        have hno : ∀ x, x < n → S (t0 + k + 1) x = true → S (t0 + k) x = true := fun x hx h => by
          cases e : S (t0 + k) x with
          | true => rfl
          | false =>
            have : x ∈ (List.range n).filter fun x => S (t0 + k + 1) x && !S (t0 + k) x := List.mem_filter.mpr ⟨List.mem_range.mpr hx, by rw [h, e]; rfl⟩
            have := List.length_pos_of_mem this
            omega
        have closed : ∀ d ∈ ds, (S (t0 + k) d.1.toNat = true ↔ S (t0 + k) d.2.toNat = true) := fun d hd => by
          obtain ⟨v1, v2, v3⟩ := hv d hd
          exact ⟨fun h => hno _ (by omega) ((step _ d hd).1 h), fun h => hno _ (by omega) ((step _ d hd).2 h)⟩
        have hak : ∀ j, S (t0 + j) a = true := fun j => by
          induction j with
          | zero => exact h0
          | succ j ih => exact mono _ _ ih
        have hall : ∀ x, x < n → S (t0 + k) x = true := fun x hx => by
          have := hc (fun z => S (t0 + k) z.toNat = true) closed (a : Int) (x : Int) (by omega) (by omega) (by omega) (by omega) (by show S (t0 + k) (a : Int).toNat = true; rw [Int.toNat_natCast]; exact hak k)
          have this : S (t0 + k) (x : Int).toNat = true := this
          rwa [Int.toNat_natCast] at this
        have : (List.range n).filter (S (t0 + (k + 1))) = List.range n := List.filter_eq_self.mpr fun x hx => mono _ _ (hall x (List.mem_range.mp hx))
        rw [this, List.length_range]
      · have : (List.range n).filter (S (t0 + (k + 1))) = (List.range n).filter (S (t0 + k + 1)) := rfl
        rw [this]
        omega
  rcases key n with h | h
  · exact full _ h
  · have hle := List.length_filter_le (S (t0 + n)) (List.range n)
    rw [List.length_range] at hle
    omega
/-! two places near to all -/
def Dom (n : Nat) (ds : List (Int × Int)) (a b : Nat) : Prop := a < n ∧ b < n ∧ ∀ r, r < n → joinsB ds (a : Int) (r : Int) = true ∨ joinsB ds (b : Int) (r : Int) = true
/-- all of the runner's places have a rank -/
def totB (n : Nat) (ds : List (Int × Int)) (t : Nat) (cs : List Nat) : Bool := (List.range n).all fun r => (lapN n ds cs.length t cs r).isSome
theorem css_two {n x y : Nat} (hx : x < n) (hy : y < n) : [x, y] ∈ cssF n 2 := cssF_mem.mpr ⟨rfl, fun p hp => by
  rcases List.mem_cons.mp hp with rfl | hp
  · exact hx
  · rw [List.mem_singleton] at hp
    rw [hp]
    exact hy⟩
theorem totB_mono {n : Nat} {ds : List (Int × Int)} {t : Nat} {cs : List Nat} (h : totB n ds t cs = true) : totB n ds (t + 1) cs = true := by
  unfold totB at h ⊢
  rw [List.all_eq_true] at h ⊢
  exact fun r hr => lap_keeps (h r hr)
theorem totB_step {n : Nat} {ds : List (Int × Int)} {t x y x' y' : Nat} (hx : x < n) (hy : y < n) (hx' : x' < n) (hy' : y' < n) (jx : joinsB ds x x' = true) (jy : joinsB ds y y' = true) (h : totB n ds t [x', y'] = true) : totB n ds (t + 1) [x, y] = true := by
  unfold totB at h ⊢
  rw [List.all_eq_true] at h ⊢
  intro r hr
  have hr := List.mem_range.mp hr
  refine lap_win (g := [x', y']) (css_two hx hy) hr (glF_two.mpr ⟨x', ?_, y', ?_, rfl⟩) (behF_all fun p hp => h p ?_)
  · rw [arF_get hx]
    exact nearF_mem.mpr ⟨hx', jx⟩
  · rw [arF_get hy]
    exact nearF_mem.mpr ⟨hy', jy⟩
  · rw [arF_get hr] at hp
    exact List.mem_range.mpr (nearF_mem.mp hp).1
theorem dom_tot {n : Nat} {ds : List (Int × Int)} {a b : Nat} (h : Dom n ds a b) : totB n ds 1 [a, b] = true := by
  obtain ⟨ha, hb, hd⟩ := h
  unfold totB
  rw [List.all_eq_true]
  intro r hr
  have hr := List.mem_range.mp hr
  rcases hd r hr with h | h
  · refine lap_win (g := [r, b]) (css_two ha hb) hr (glF_two.mpr ⟨r, ?_, b, ?_, rfl⟩) (by rw [behF_in (by simp)]; rfl)
    · rw [arF_get ha]
      exact nearF_mem.mpr ⟨hr, h⟩
    · rw [arF_get hb]
      exact nearF_mem.mpr ⟨hb, joins_refl _ _⟩
  · refine lap_win (g := [a, r]) (css_two ha hb) hr (glF_two.mpr ⟨a, ?_, r, ?_, rfl⟩) (by rw [behF_in (by simp)]; rfl)
    · rw [arF_get ha]
      exact nearF_mem.mpr ⟨ha, joins_refl _ _⟩
    · rw [arF_get hb]
      exact nearF_mem.mpr ⟨hr, h⟩
theorem joins_door {ds : List (Int × Int)} {d : Int × Int} (hd : d ∈ ds) (h : d.1 < d.2) : joinsB ds d.1 d.2 = true := by
  unfold joinsB mnI mxI
  rw [if_neg (by omega), if_pos (by omega : d.2 > d.1)]
  simp [hd]
theorem dom_all {n : Nat} {ds : List (Int × Int)} (hv : ValP n ds) (hc : Conn n ds) {a b : Nat} (h : Dom n ds a b) {x y : Nat} (hx : x < n) (hy : y < n) : totB n ds (1 + n + n) [x, y] = true := by
  obtain ⟨ha, hb, _⟩ := id h
  have door : ∀ d ∈ ds, d.1.toNat < n ∧ d.2.toNat < n ∧ joinsB ds (d.1.toNat : Int) (d.2.toNat : Int) = true := fun d hd => by
    obtain ⟨v1, v2, v3⟩ := hv d hd
    rw [show ((d.1.toNat : Nat) : Int) = d.1 by omega, show ((d.2.toNat : Nat) : Int) = d.2 by omega]
    exact ⟨by omega, by omega, joins_door hd v2⟩
  have h1 := spread hv hc (fun t x => totB n ds t [x, b]) (fun t x e => totB_mono e) (fun t d hd => by
    obtain ⟨d1, d2, d3⟩ := door d hd
    exact ⟨fun e => totB_step d2 hb d1 hb (by rw [joinsB_comm]; exact d3) (joins_refl _ _) e, fun e => totB_step d1 hb d2 hb d3 (joins_refl _ _) e⟩) ha (dom_tot h) x hx
  exact spread hv hc (fun t y => totB n ds t [x, y]) (fun t x e => totB_mono e) (fun t d hd => by
    obtain ⟨d1, d2, d3⟩ := door d hd
    exact ⟨fun e => totB_step hx d2 hx d1 (joins_refl _ _) (by rw [joinsB_comm]; exact d3) e, fun e => totB_step hx d1 hx d2 (joins_refl _ _) d3 e⟩) hb h1 y hy
/-- where two places are near to all, all standings of two have a rank -/
theorem dom_lap {n : Nat} {ds : List (Int × Int)} (hv : ValP n ds) (hc : Conn n ds) {a b : Nat} (h : Dom n ds a b) {cs : List Nat} {r : Nat} (hcs : cs ∈ cssF n 2) (hr : r < n) : (lapN n ds 2 (1 + n + n) cs r).isSome = true := by
  obtain ⟨hl, hm⟩ := cssF_mem.mp hcs
  match cs, hl with
  | [x, y], _ =>
    have := dom_all hv hc h (hm x (by simp)) (hm y (by simp))
    unfold totB at this
    rw [List.all_eq_true] at this
    exact this r (List.mem_range.mpr hr)
/-! five places at most -/
def mk5 (a b c d e f g h i j : Bool) : Nat → Nat → Bool
  | 0, 1 | 1, 0 => a
  | 0, 2 | 2, 0 => b
  | 0, 3 | 3, 0 => c
  | 0, 4 | 4, 0 => d
  | 1, 2 | 2, 1 => e
  | 1, 3 | 3, 1 => f
  | 1, 4 | 4, 1 => g
  | 2, 3 | 3, 2 => h
  | 2, 4 | 4, 2 => i
  | 3, 4 | 4, 3 => j
  | x, y => x == y
def domB (n : Nat) (J : Nat → Nat → Bool) : Bool := (List.range n).any fun a => (List.range n).any fun b => (List.range n).all fun r => J a r || J b r
def soloB (n : Nat) (J : Nat → Nat → Bool) : Bool := (List.range n).all fun x => (List.range n).any fun y => (x != y) && J x y
theorem dom5 : ∀ a b c d e f g h i j : Bool, (!soloB 5 (mk5 a b c d e f g h i j) || domB 5 (mk5 a b c d e f g h i j)) = true := by decide +kernel
theorem dom4 : ∀ a b c d e f g h i j : Bool, (!soloB 4 (mk5 a b c d e f g h i j) || domB 4 (mk5 a b c d e f g h i j)) = true := by decide +kernel
theorem dom3 : ∀ a b c d e f g h i j : Bool, (!soloB 3 (mk5 a b c d e f g h i j) || domB 3 (mk5 a b c d e f g h i j)) = true := by decide +kernel
theorem dom2 : ∀ a b c d e f g h i j : Bool, (!soloB 2 (mk5 a b c d e f g h i j) || domB 2 (mk5 a b c d e f g h i j)) = true := by decide +kernel
theorem mk5_eq {J : Nat → Nat → Bool} (hs : ∀ i j, J i j = J j i) (hr : ∀ i, J i i = true) {i j : Nat} (hi : i < 5) (hj : j < 5) :
    mk5 (J 0 1) (J 0 2) (J 0 3) (J 0 4) (J 1 2) (J 1 3) (J 1 4) (J 2 3) (J 2 4) (J 3 4) i j = J i j := by
  have h1 : i = 0 ∨ i = 1 ∨ i = 2 ∨ i = 3 ∨ i = 4 := by omega
  have h2 : j = 0 ∨ j = 1 ∨ j = 2 ∨ j = 3 ∨ j = 4 := by omega
  rcases h1 with rfl | rfl | rfl | rfl | rfl <;> rcases h2 with rfl | rfl | rfl | rfl | rfl <;> first | rfl | exact hs _ _ | (rw [hr]; rfl)
theorem solo_not {n : Nat} {ds : List (Int × Int)} (hv : ValP n ds) (hc : Conn n ds) (h2 : 2 ≤ n) {x : Nat} (hx : x < n) : ∃ y, y < n ∧ y ≠ x ∧ joinsB ds (x : Int) (y : Int) = true := by
  refine Classical.byContradiction fun hno => ?_
  have hno : ∀ y : Nat, y < n → y ≠ x → joinsB ds (x : Int) (y : Int) = true → False := fun y h1 h2 h3 => hno ⟨y, h1, h2, h3⟩
  obtain ⟨z, hz, hzx⟩ : ∃ z : Nat, z < n ∧ z ≠ x := by
    by_cases c : x = 0
    · exact ⟨1, by omega, by omega⟩
    · exact ⟨0, by omega, by omega⟩
  have := hc (fun i => i = (x : Int)) (fun d hd => by
    obtain ⟨v1, v2, v3⟩ := hv d hd
    have j := joins_door hd v2
    constructor
    · intro (e : d.1 = (x : Int))
      exfalso
      refine hno d.2.toNat (by omega) (by omega) ?_
      rw [show ((d.2.toNat : Nat) : Int) = d.2 by omega, ← e]
      exact j
    · intro (e : d.2 = (x : Int))
      exfalso
      refine hno d.1.toNat (by omega) (by omega) ?_
      rw [show ((d.1.toNat : Nat) : Int) = d.1 by omega, ← e, joinsB_comm]
      exact j) (x : Int) (z : Int) (by omega) (by omega) (by omega) (by omega) rfl
  have this : (z : Int) = (x : Int) := this
  omega
theorem dom_ex {n : Nat} {ds : List (Int × Int)} (h : FloOk n ds) (h5 : n ≤ 5) : ∃ a b, Dom n ds a b := by
  have h1 := h.n1
  by_cases c : n = 1
  · subst c
    exact ⟨0, 0, by omega, by omega, fun r hr => .inl (by rw [show r = 0 by omega]; exact joins_refl _ _)⟩
  let J : Nat → Nat → Bool := fun i j => joinsB ds (i : Int) (j : Int)
  have hs : ∀ i j, J i j = J j i := fun i j => joinsB_comm _ _ _
  have hr : ∀ i, J i i = true := fun i => joins_refl _ _
  have e : ∀ {i j : Nat}, i < 5 → j < 5 → mk5 (J 0 1) (J 0 2) (J 0 3) (J 0 4) (J 1 2) (J 1 3) (J 1 4) (J 2 3) (J 2 4) (J 3 4) i j = J i j := fun hi hj => mk5_eq hs hr hi hj
  have hsolo : soloB n (mk5 (J 0 1) (J 0 2) (J 0 3) (J 0 4) (J 1 2) (J 1 3) (J 1 4) (J 2 3) (J 2 4) (J 3 4)) = true := by
    unfold soloB
    rw [List.all_eq_true]
    intro x hx
    have hx := List.mem_range.mp hx
    obtain ⟨y, hy, hyx, hj⟩ := solo_not h.val h.con (by omega) hx
    refine List.any_eq_true.mpr ⟨y, List.mem_range.mpr hy, ?_⟩
    rw [e (by omega) (by omega)]
    show ((x != y) && joinsB ds (x : Int) (y : Int)) = true
    rw [hj, Bool.and_true]
    simpa using fun z => hyx z.symm
  have hdom : domB n (mk5 (J 0 1) (J 0 2) (J 0 3) (J 0 4) (J 1 2) (J 1 3) (J 1 4) (J 2 3) (J 2 4) (J 3 4)) = true := by
    have hn : n = 2 ∨ n = 3 ∨ n = 4 ∨ n = 5 := by omega
    rcases hn with rfl | rfl | rfl | rfl
    · have := dom2 (J 0 1) (J 0 2) (J 0 3) (J 0 4) (J 1 2) (J 1 3) (J 1 4) (J 2 3) (J 2 4) (J 3 4)
      rwa [hsolo] at this
    · have := dom3 (J 0 1) (J 0 2) (J 0 3) (J 0 4) (J 1 2) (J 1 3) (J 1 4) (J 2 3) (J 2 4) (J 3 4)
      rwa [hsolo] at this
    · have := dom4 (J 0 1) (J 0 2) (J 0 3) (J 0 4) (J 1 2) (J 1 3) (J 1 4) (J 2 3) (J 2 4) (J 3 4)
      rwa [hsolo] at this
    · have := dom5 (J 0 1) (J 0 2) (J 0 3) (J 0 4) (J 1 2) (J 1 3) (J 1 4) (J 2 3) (J 2 4) (J 3 4)
      rwa [hsolo] at this
  unfold domB at hdom
  obtain ⟨a, ha, h2⟩ := List.any_eq_true.mp hdom
  obtain ⟨b, hb, h3⟩ := List.any_eq_true.mp h2
  have ha := List.mem_range.mp ha
  have hb := List.mem_range.mp hb
  refine ⟨a, b, ha, hb, fun r hr' => ?_⟩
  have h4 := List.all_eq_true.mp h3 r (List.mem_range.mpr hr')
  rw [e (by omega) (by omega), e (by omega) (by omega), Bool.or_eq_true] at h4
  exact h4
/-- on up to five places two chasers always catch -/
theorem two_lap {n : Nat} {ds : List (Int × Int)} (h : FloOk n ds) (h5 : n ≤ 5) {cs : List Nat} {r : Nat} (hcs : cs ∈ cssF n 2) (hr : r < n) : (lapN n ds 2 (1 + n + n) cs r).isSome = true := by
  obtain ⟨a, b, hd⟩ := dom_ex h h5
  exact dom_lap h.val h.con hd hcs hr
theorem forty {n : Nat} {ds : List (Int × Int)} {c : Nat} (h : FloOk n ds) (hc : c = 1 ∨ (c = 2 ∧ n ≤ 5)) : Forty n ds c := by
  rcases hc with rfl | ⟨rfl, h5⟩
  · exact forty_few (unr_one h.n6)
  · have hno : moreF (arF n ds) (lapN n ds 2 (1 + n + n)) (ksF (arF n ds) (cssF n 2)) = [] := by
      cases e : moreF (arF n ds) (lapN n ds 2 (1 + n + n)) (ksF (arF n ds) (cssF n 2)) with
      | nil => rfl
      | cons s l =>
        exfalso
        obtain ⟨g, r⟩ := s
        have hm : (g, r) ∈ moreF (arF n ds) (lapN n ds 2 (1 + n + n)) (ksF (arF n ds) (cssF n 2)) := by rw [e]; exact List.mem_cons_self
        obtain ⟨h1, h2, h3, _⟩ := moreF_mem.mp hm
        rw [arF_len] at h2
        have := two_lap h h5 h1 h2
        rw [h3] at this
        cases this
    have e := lap_stay hno (40 - (1 + n + n))
    rw [show 1 + n + n + (40 - (1 + n + n)) = 40 by omega] at e
    unfold Forty
    rw [e]
    exact hno
end CF

namespace CF
open PySem L2 PyProof.Rows
/-! ### what ranks are: the first lap -/
section
variable {n : Nat} {ds : List (Int × Int)} {c : Nat}
theorem lap_first {cs : List Nat} {r : Nat} : ∀ {t k : Nat}, lapN n ds c t cs r = some k → k ≤ t ∧ (lapN n ds c k cs r).isSome = true ∧ ∀ s, s < k → lapN n ds c s cs r = none
  | 0, k, h => by
    have h0 : L0F (cssF n c) cs r = some k := h
    unfold L0F at h0
    split at h0
    · cases h0
      exact ⟨Nat.le_refl _, by rw [h]; rfl, fun s hs => absurd hs (Nat.not_lt_zero s)⟩
    · cases h0
  | t + 1, k, h => by
    cases e : lapN n ds c t cs r with
    | some j =>
      rw [lap_keep e] at h
      cases h
      obtain ⟨h1, h2, h3⟩ := lap_first e
      exact ⟨by omega, h2, h3⟩
    | none =>
      have h' : upL (lapN n ds c t) (moreF (arF n ds) (lapN n ds c t) (ksF (arF n ds) (cssF n c))) (t + 1) cs r = some k := h
      unfold upL at h'
      split at h'
      · cases h'
        refine ⟨Nat.le_refl _, by rw [h]; rfl, fun s hs => ?_⟩
        cases e2 : lapN n ds c s cs r with
        | none => rfl
        | some j =>
          have := lap_keepj e2 (t - s)
          rw [show s + (t - s) = t by omega, e] at this
          cases this
      · rw [e] at h'
        cases h'
theorem lap_some_le {cs : List Nat} {r t : Nat} (h : (lapN n ds c t cs r).isSome = true) {s : Nat} (hs : t ≤ s) : lapN n ds c s cs r = lapN n ds c t cs r := by
  obtain ⟨k, hk⟩ := Option.isSome_iff_exists.mp h
  have := lap_keepj hk (s - t)
  rw [show t + (s - t) = s by omega] at this
  rw [this, hk]
theorem ranks_stay (t : Nat) (ht : unr n (cssF n c) (L0F (cssF n c)) ≤ t) : lapN n ds c t = ranksF n ds c := by
  by_cases hall : ∀ s, s < unr n (cssF n c) (L0F (cssF n c)) + 1 → moreF (arF n ds) (lapN n ds c s) (ksF (arF n ds) (cssF n c)) ≠ []
  · have := lap_unr _ hall
    omega
  · obtain ⟨s, hs⟩ := Classical.not_forall.mp hall
    obtain ⟨hs1, hs2⟩ := Classical.not_imp.mp hs
    have hs2 := Classical.not_not.mp hs2
    unfold ranksF
    have e1 := lap_stay hs2 (t - s)
    have e2 := lap_stay hs2 (unr n (cssF n c) (L0F (cssF n c)) - s)
    rw [show s + (t - s) = t by omega] at e1
    rw [show s + (unr n (cssF n c) (L0F (cssF n c)) - s) = unr n (cssF n c) (L0F (cssF n c)) by omega] at e2
    rw [e1, e2]
theorem rk_of_lap {cs : List Nat} {r t : Nat} (h : (lapN n ds c t cs r).isSome = true) : ranksF n ds c cs r = lapN n ds c t cs r := by
  rw [← ranks_stay (n := n) (ds := ds) (c := c) (t + unr n (cssF n c) (L0F (cssF n c))) (by omega)]
  exact lap_some_le h (by omega)
theorem rk_iff {cs : List Nat} {r k : Nat} : ranksF n ds c cs r = some k ↔ (lapN n ds c k cs r).isSome = true ∧ ∀ s, s < k → lapN n ds c s cs r = none := by
  constructor
  · intro h
    obtain ⟨_, h2, h3⟩ := lap_first (show lapN n ds c (unr n (cssF n c) (L0F (cssF n c))) cs r = some k from h)
    exact ⟨h2, h3⟩
  · rintro ⟨h1, h2⟩
    obtain ⟨j, hj⟩ := Option.isSome_iff_exists.mp h1
    have e := rk_of_lap h1
    obtain ⟨h3, h4, _⟩ := lap_first hj
    have : j = k := by
      rcases Nat.lt_or_ge j k with h | h
      · have := h2 j h
        rw [this] at h4
        cases h4
      · omega
    rw [e, hj, this]
theorem rk_none {cs : List Nat} {r : Nat} : ranksF n ds c cs r = none ↔ ∀ t, lapN n ds c t cs r = none := by
  constructor
  · intro h t
    cases e : lapN n ds c t cs r with
    | none => rfl
    | some k =>
      have := rk_of_lap (t := t) (by rw [e]; rfl)
      rw [h, e] at this
      cases this
  · exact fun h => h _
/-- how a rank comes -/
theorem lap_iff {cs : List Nat} {r t : Nat} : (lapN n ds c (t + 1) cs r).isSome = true ↔ (lapN n ds c t cs r).isSome = true ∨ (cs ∈ cssF n c ∧ r < n ∧ ∃ g ∈ glF (arF n ds) cs, (behF (nearF n ds r) (lapN n ds c t) g r).isSome = true) := by
  constructor
  · intro h
    cases e : lapN n ds c t cs r with
    | some j => exact .inl rfl
    | none =>
      right
      have h' : (upL (lapN n ds c t) (moreF (arF n ds) (lapN n ds c t) (ksF (arF n ds) (cssF n c))) (t + 1) cs r).isSome = true := h
      unfold upL at h'
      split at h'
      · rename_i hm
        obtain ⟨h1, h2, _, h4⟩ := moreF_mem.mp hm
        rw [arF_len] at h2
        unfold winB at h4
        obtain ⟨g, hg, hb⟩ := List.any_eq_true.mp h4
        rw [arF_get h2] at hb
        exact ⟨h1, h2, g, hg, hb⟩
      · rw [e] at h'
        cases h'
  · rintro (h | ⟨h1, h2, g, hg, hb⟩)
    · exact lap_keeps h
    · exact lap_win h1 h2 hg (by rw [arF_get h2]; exact hb)
theorem behF_iff {nr : List Nat} {L : Rk} {g : List Nat} {r : Nat} : (behF nr L g r).isSome = true ↔ r ∈ g ∨ ∀ p ∈ nr, (L g p).isSome = true := by
  constructor
  · intro h
    by_cases c : r ∈ g
    · exact .inl c
    · right
      intro p hp
      cases e : L g p with
      | some k => rfl
      | none =>
        unfold behF at h
        rw [if_neg c, behSome L g nr 0 ⟨p, hp, e⟩] at h
        cases h
  · rintro (h | h)
    · rw [behF_in h]
      rfl
    · exact behF_all h
theorem lap_zero {cs : List Nat} {r : Nat} : (lapN n ds c 0 cs r).isSome = true ↔ cs ∈ cssF n c ∧ r ∈ cs := by
  show (L0F (cssF n c) cs r).isSome = true ↔ _
  unfold L0F
  split
  · exact ⟨fun _ => by assumption, fun _ => rfl⟩
  · exact Iff.intro (fun h => by cases h) (fun h => absurd h (by assumption))
theorem rk_zero {cs : List Nat} {r : Nat} (hcs : cs ∈ cssF n c) : ranksF n ds c cs r = some 0 ↔ r ∈ cs := by
  rw [rk_iff, lap_zero]
  exact Iff.intro (fun h => h.1.2) (fun h => ⟨⟨hcs, h⟩, fun s hs => absurd hs (Nat.not_lt_zero s)⟩)
end
/-! two chasers: the order, and each alone -/
section
variable {n : Nat} {ds : List (Int × Int)}
theorem css_swap {x y : Nat} (h : [x, y] ∈ cssF n 2) : [y, x] ∈ cssF n 2 := by
  obtain ⟨_, h⟩ := cssF_mem.mp h
  exact css_two (h y (by simp)) (h x (by simp))
theorem lap_swap : ∀ (t x y r : Nat), (lapN n ds 2 t [x, y] r).isSome = true → (lapN n ds 2 t [y, x] r).isSome = true
  | 0, x, y, r, h => by
    obtain ⟨h1, h2⟩ := lap_zero.mp h
    refine lap_zero.mpr ⟨css_swap h1, ?_⟩
    simp only [List.mem_cons, List.not_mem_nil, or_false] at h2 ⊢
    exact h2.symm
  | t + 1, x, y, r, h => by
    rcases lap_iff.mp h with h | ⟨h1, h2, g, hg, hb⟩
    · exact lap_keeps (lap_swap t x y r h)
    · obtain ⟨p, hp, q, hq, rfl⟩ := glF_two.mp hg
      refine lap_iff.mpr (.inr ⟨css_swap h1, h2, [q, p], glF_two.mpr ⟨q, hq, p, hp, rfl⟩, behF_iff.mpr ?_⟩)
      rcases behF_iff.mp hb with h | h
      · left
        simp only [List.mem_cons, List.not_mem_nil, or_false] at h ⊢
        exact h.symm
      · exact .inr fun z hz => lap_swap t p q z (h z hz)
theorem rk_swap (x y r : Nat) : ranksF n ds 2 [x, y] r = ranksF n ds 2 [y, x] r := by
  have key : ∀ x y k, ranksF n ds 2 [x, y] r = some k → ranksF n ds 2 [y, x] r = some k := fun x y k h => by
    obtain ⟨h1, h2⟩ := rk_iff.mp h
    refine rk_iff.mpr ⟨lap_swap _ _ _ _ h1, fun s hs => ?_⟩
    cases e : lapN n ds 2 s [y, x] r with
    | none => rfl
    | some j =>
      have := lap_swap s y x r (by rw [e]; rfl)
      rw [h2 s hs] at this
      cases this
  cases e : ranksF n ds 2 [x, y] r with
  | some k => rw [key x y k e]
  | none =>
    cases e2 : ranksF n ds 2 [y, x] r with
    | none => rfl
    | some k =>
      have := key y x k e2
      rw [e] at this
      cases this
theorem lap_alone : ∀ (t x y r : Nat), y < n → (lapN n ds 1 t [x] r).isSome = true → (lapN n ds 2 t [x, y] r).isSome = true
  | 0, x, y, r, hy, h => by
    obtain ⟨h1, h2⟩ := lap_zero.mp h
    obtain ⟨_, h3⟩ := cssF_mem.mp h1
    exact lap_zero.mpr ⟨css_two (h3 x (by simp)) hy, List.mem_cons.mpr (.inl (by simpa using h2))⟩
  | t + 1, x, y, r, hy, h => by
    rcases lap_iff.mp h with h | ⟨h1, h2, g, hg, hb⟩
    · exact lap_keeps (lap_alone t x y r hy h)
    · obtain ⟨p, hp, rfl⟩ := glF_one.mp hg
      obtain ⟨_, h3⟩ := cssF_mem.mp h1
      have hx := h3 x (by simp)
      refine lap_iff.mpr (.inr ⟨css_two hx hy, h2, [p, y], glF_two.mpr ⟨p, hp, y, ?_, rfl⟩, behF_iff.mpr ?_⟩)
      · rw [arF_get hy]
        exact nearF_mem.mpr ⟨hy, joins_refl _ _⟩
      · rcases behF_iff.mp hb with h | h
        · exact .inl (List.mem_cons.mpr (.inl (by simpa using h)))
        · exact .inr fun z hz => lap_alone t p y z hy (h z hz)
theorem rk_alone {x y r k : Nat} (hy : y < n) (h : ranksF n ds 1 [x] r = some k) : ∃ j, ranksF n ds 2 [x, y] r = some j ∧ j ≤ k := by
  have h1 := lap_alone k x y r hy (rk_iff.mp h).1
  obtain ⟨j, hj⟩ := Option.isSome_iff_exists.mp h1
  exact ⟨j, by rw [rk_of_lap h1, hj], (lap_first hj).1⟩
theorem rk_two {cs : List Nat} {r : Nat} (h : FloOk n ds) (h5 : n ≤ 5) (hcs : cs ∈ cssF n 2) (hr : r < n) : ∃ k, ranksF n ds 2 cs r = some k := by
  have := two_lap h h5 hcs hr
  obtain ⟨k, hk⟩ := Option.isSome_iff_exists.mp this
  exact ⟨k, by rw [rk_of_lap this, hk]⟩
end
end CF

namespace CF
open PySem L2 PyProof.Rows
/-! ### plans: promises -/
def spFree (C CS CC : Addr) : Sp := fun vs H Q E => ∃ (F : Hp) (v : V) (n : Nat) (ds : List (Int × Int)) (a : Addr) (is : List Int) (r : Int), vs = [v, .ref a, .int r] ∧ Same F H ∧ FlrAt C F v n ds ∧ F a = some (.lst (intsV is)) ∧ is.length ≤ 1000 ∧
  (standB n is r = true → r ∉ is → ∀ H', Grow F H F H' → Q .non H') ∧ (standB n is r = false → ∀ H', Grow F H F H' → E (.ref CS) none H') ∧ (standB n is r = true → r ∈ is → ∀ H', Grow F H F H' → E (.ref CC) none H')
/-- the flight: the first place without a rank, else the first of the greatest -/
def flF (L : Nat → Option Nat) : List Nat → Option (Nat × Nat) → Nat
  | [], some (_, p) => p
  | [], none => 0
  | p :: ps, acc => match L p with
    | none => p
    | some h => match acc with
      | none => flF L ps (some (h, p))
      | some (b, q) => if h > b then flF L ps (some (h, p)) else flF L ps (some (b, q))
def spFlight (C CS CC : Addr) : Sp := fun vs H Q E => ∃ (F : Hp) (v : V) (n : Nat) (ds : List (Int × Int)) (a : Addr) (is : List Int) (r : Int), vs = [v, .ref a, .int r] ∧ Same F H ∧ FlrAt C F v n ds ∧ n ≤ 6 ∧ F a = some (.lst (intsV is)) ∧ is.length ≤ 1000 ∧
  (∀ (cs : List Nat) (k : Nat), is = asI cs → r = (k : Int) → standB n is r = true → k ∉ cs → ∀ F' H', Grow F H F' H' → Q (nv (flF (ranksF n ds cs.length cs) (nearF n ds k) none)) H') ∧
  (standB n is r = false → ∀ H', Grow F H F H' → E (.ref CS) none H') ∧ (standB n is r = true → r ∈ is → ∀ H', Grow F H F H' → E (.ref CC) none H')
/-- the chasers' next places -/
def chB (n : Nat) (ds : List (Int × Int)) (cs : List Nat) (k h : Nat) (g : List Nat) : Bool := decide (opN (behF (nearF n ds k) (ranksF n ds cs.length) g k) = V.int ((h : Int) - 1))
def chF (n : Nat) (ds : List (Int × Int)) (cs : List Nat) (k h : Nat) : List Nat := ((glF (arF n ds) cs).find? (chB n ds cs k h)).getD cs
def spChase (C CS CC CR : Addr) : Sp := fun vs H Q E => ∃ (F : Hp) (v : V) (n : Nat) (ds : List (Int × Int)) (a : Addr) (is : List Int) (r : Int), vs = [v, .ref a, .int r] ∧ Same F H ∧ FlrAt C F v n ds ∧ n ≤ 6 ∧ F a = some (.lst (intsV is)) ∧ is.length ≤ 1000 ∧
  (∀ (cs : List Nat) (k h : Nat), is = asI cs → r = (k : Int) → standB n is r = true → k ∉ cs → ranksF n ds cs.length cs k = some h → ∀ F' H' b, Grow F H F' H' → F' b = none → H' b = some (.lst ((chF n ds cs k h).map nv)) → H b = none → Q (.ref b) H') ∧
  (standB n is r = false → ∀ H', Grow F H F H' → E (.ref CS) none H') ∧ (standB n is r = true → r ∈ is → ∀ H', Grow F H F H' → E (.ref CC) none H') ∧
  (∀ (cs : List Nat) (k : Nat), is = asI cs → r = (k : Int) → standB n is r = true → k ∉ cs → ranksF n ds cs.length cs k = none → ∀ F' H', Grow F H F' H' → E (.ref CR) none H')
end CF
namespace CF
open PySem L2 PyProof.Rows
/-! ### flight -/
theorem rk_flee {n : Nat} {ds : List (Int × Int)} {c : Nat} {cs : List Nat} {r : Nat} (h : ranksF n ds c cs r = none) (hcs : cs ∈ cssF n c) (hr : r < n) {g : List Nat} (hg : g ∈ glF (arF n ds) cs) : r ∉ g ∧ ∃ p ∈ nearF n ds r, ranksF n ds c g p = none := by
  have hno := rk_none.mp h
  have key : ∀ t, ¬ ((behF (nearF n ds r) (lapN n ds c t) g r).isSome = true) := fun t hb => by
    have := lap_iff.mpr (.inr ⟨hcs, hr, g, hg, hb⟩)
    rw [hno] at this
    cases this
  refine ⟨fun z => key 0 (behF_iff.mpr (.inl z)), Classical.byContradiction fun hall => ?_⟩
  refine key (unr n (cssF n c) (L0F (cssF n c))) (behF_iff.mpr (.inr fun p hp => ?_))
  cases e : lapN n ds c (unr n (cssF n c) (L0F (cssF n c))) g p with
  | some k => rfl
  | none => exact absurd ⟨p, hp, e⟩ hall
theorem flF_none {L : Nat → Option Nat} : ∀ (l : List Nat) (acc : Option (Nat × Nat)), (∃ p ∈ l, L p = none) → flF L l acc ∈ l ∧ L (flF L l acc) = none
  | [], _, ⟨p, hp, _⟩ => by cases hp
  | p :: l, acc, ⟨q, hq, h⟩ => by
    cases e : L p with
    | none =>
      have e2 : flF L (p :: l) acc = p := by
        show (match L p with | none => p | some h => _) = p
        rw [e]
      rw [e2]
      exact ⟨List.mem_cons_self, e⟩
    | some k =>
      have hq' : q ∈ l := by
        rcases List.mem_cons.mp hq with rfl | hq
        · rw [h] at e
          cases e
        · exact hq
      have e2 : ∃ acc', flF L (p :: l) acc = flF L l acc' := by
        cases acc with
        | none =>
          refine ⟨some (k, p), ?_⟩
          show (match L p with | none => p | some h => _) = _
          rw [e]
        | some bq =>
          obtain ⟨b, q2⟩ := bq
          by_cases c : k > b
          · refine ⟨some (k, p), ?_⟩
            show (match L p with | none => p | some h => _) = _
            rw [e]
            show (if k > b then _ else _) = _
            rw [if_pos c]
          · refine ⟨some (b, q2), ?_⟩
            show (match L p with | none => p | some h => _) = _
            rw [e]
            show (if k > b then _ else _) = _
            rw [if_neg c]
      obtain ⟨acc', e2⟩ := e2
      rw [e2]
      obtain ⟨h1, h2⟩ := flF_none l acc' ⟨q, hq', h⟩
      exact ⟨List.mem_cons_of_mem _ h1, h2⟩
theorem css_one {n x : Nat} (hx : x < n) : [x] ∈ cssF n 1 := cssF_mem.mpr ⟨rfl, fun p hp => by
  rw [List.mem_singleton] at hp
  rw [hp]
  exact hx⟩
/-- one chaser goes, the runner flees -/
theorem flee_one {n : Nat} {ds : List (Int × Int)} {x y r : Nat} (hx : x < n) (hr : r < n) (h : ranksF n ds 1 [x] r = none) (hy : y ∈ nearF n ds x) :
    r ≠ y ∧ flF (ranksF n ds 1 [y]) (nearF n ds r) none ∈ nearF n ds r ∧ flF (ranksF n ds 1 [y]) (nearF n ds r) none ≠ y ∧ ranksF n ds 1 [y] (flF (ranksF n ds 1 [y]) (nearF n ds r) none) = none := by
  obtain ⟨h1, h2⟩ := rk_flee h (css_one hx) hr (g := [y]) (glF_one.mpr ⟨y, by rw [arF_get hx]; exact hy, rfl⟩)
  obtain ⟨h3, h4⟩ := flF_none (L := ranksF n ds 1 [y]) (nearF n ds r) none h2
  refine ⟨fun e => h1 (by rw [e]; simp), h3, fun e => ?_, h4⟩
  have := (rk_zero (n := n) (ds := ds) (c := 1) (cs := [y]) (r := y) (css_one (nearF_mem.mp hy).1)).mpr (by simp)
  rw [e, this] at h4
  cases h4
theorem ring_ok {m : Nat} {qs : List (Int × Int)} (h3 : 3 ≤ m) (h6 : m ≤ 6) (h1 : SrtP qs) (h2 : qs.Perm (ringP m)) : FloOk m qs :=
  FloOk.of (by omega) h6 h1 h2 (ring_nodup h3) (ring_val h3) ring_tree.conn (by unfold ringP; simp; omega)
end CF

namespace CF
open PySem L2 PyProof.Rows
/-! ### folds: the mirror -/
/-- the places near p that are left are all near to q, another one -/
def covB (n : Nat) (ds : List (Int × Int)) (rest : List Nat) (p q : Nat) : Bool := decide (q ≠ p) && ((nearF n ds p).filter fun o => decide (o ∈ rest)).all fun o => joinsB ds (o : Int) (q : Int)
def foldP (n : Nat) (ds : List (Int × Int)) (rest : List Nat) : Option (Nat × Nat) := rest.findSome? fun p => (rest.find? (covB n ds rest p)).map fun q => (p, q)
def foldsN (n : Nat) (ds : List (Int × Int)) : Nat → List Nat → List (Nat × Nat) × List Nat
  | 0, rest => ([], rest)
  | k + 1, rest => match foldP n ds rest with
    | none => ([], rest)
    | some s => (s :: (foldsN n ds k (rest.erase s.1)).1, (foldsN n ds k (rest.erase s.1)).2)
def toP (s : Nat × Nat) : Int × Int := ((s.1 : Int), (s.2 : Int))
def foldsF (n : Nat) (ds : List (Int × Int)) : List (Nat × Nat) × List Nat := foldsN n ds n (List.range n)
theorem foldP_mem {n : Nat} {ds : List (Int × Int)} {rest : List Nat} {s : Nat × Nat} (h : foldP n ds rest = some s) : s.1 ∈ rest ∧ s.2 ∈ rest ∧ covB n ds rest s.1 s.2 = true := by
  obtain ⟨p, hp, e⟩ := List.exists_of_findSome?_eq_some h
  obtain ⟨q, hq, rfl⟩ := Option.map_eq_some_iff.mp e
  exact ⟨hp, List.mem_of_find?_eq_some hq, List.find?_some hq⟩
theorem foldsN_more {n : Nat} {ds : List (Int × Int)} : ∀ (k j : Nat) (rest : List Nat), rest.length ≤ k → k ≤ j → foldsN n ds j rest = foldsN n ds k rest
  | 0, j, rest, h, _ => by
    have : rest = [] := List.length_eq_zero_iff.mp (by omega)
    subst this
    cases j with
    | zero => rfl
    | succ j => rfl
  | k + 1, 0, rest, _, h => by omega
  | k + 1, j + 1, rest, h, hj => by
    unfold foldsN
    cases e : foldP n ds rest with
    | none => rfl
    | some s =>
      obtain ⟨h1, _⟩ := foldP_mem e
      have hl := List.length_erase_of_mem h1
      have := List.length_pos_of_mem h1
      simp only [foldsN_more k j (rest.erase s.1) (by omega) (by omega)]
/-- what is left: the others -/
theorem foldsN_left {n : Nat} {ds : List (Int × Int)} : ∀ (k : Nat) (rest : List Nat), rest.Nodup → (foldsN n ds k rest).2 = rest.filter fun p => decide (p ∉ (foldsN n ds k rest).1.map (·.1))
  | 0, rest, _ => by
    show rest = rest.filter _
    exact (List.filter_eq_self.mpr fun p _ => by simp [foldsN]).symm
  | k + 1, rest, h => by
    unfold foldsN
    cases e : foldP n ds rest with
    | none => exact (List.filter_eq_self.mpr fun p _ => by simp).symm
    | some s =>
      have ih := foldsN_left (n := n) (ds := ds) k (rest.erase s.1) (h.erase _)
      show (foldsN n ds k (rest.erase s.1)).2 = rest.filter fun p => decide (p ∉ (s :: (foldsN n ds k (rest.erase s.1)).1).map (·.1))
      rw [ih]
      generalize foldsN n ds k (rest.erase s.1) = z
      rw [h.erase_eq_filter, List.filter_filter]
      refine List.filter_congr fun p _ => ?_
      rw [List.map_cons]
      by_cases c : p = s.1
      · subst c
        rw [decide_eq_false (p := _ ∉ _ :: _) (fun z => z List.mem_cons_self)]
        simp
      · have e1 : (p != s.1) = true := by simpa using c
        rw [e1, Bool.and_true]
        refine decide_eq_decide.mpr ?_
        rw [List.mem_cons]
        exact Iff.intro (fun h => not_or.mpr ⟨c, h⟩) (fun h => (not_or.mp h).2)
def FoldR (F : Hp) (u : V) : Option (Nat × Nat) → Prop
  | none => u = .non
  | some s => PairT F u (toP s)
theorem FoldR.ext {F F' : Hp} {u : V} {o : Option (Nat × Nat)} (e : Same F F') (h : FoldR F u o) : FoldR F' u o := by
  cases o with
  | none => exact h
  | some s => exact PairT.ext e h
def spFoldOf (C : Addr) : Sp := fun vs H Q _ => ∃ (F : Hp) (v : V) (n : Nat) (ds : List (Int × Int)) (l : Addr) (rest : List Nat), vs = [v, .ref l] ∧ Same F H ∧ FlrAt C F v n ds ∧ n ≤ 6 ∧ H l = some (.lst (rest.map nv)) ∧ rest.length ≤ 100 ∧ (∀ p ∈ rest, p < n) ∧
  ∀ F' H' u, Grow F H F' H' → FoldR F' u (foldP n ds rest) → Q u H'
def spFolds (C : Addr) : Sp := fun vs H Q _ => ∃ (F : Hp) (v : V) (n : Nat) (ds : List (Int × Int)), vs = [v] ∧ Same F H ∧ FlrAt C F v n ds ∧ n ≤ 6 ∧
  ∀ F' H' b ys, Grow F H F' H' → F' b = none → H' b = some (.lst ys) → Paired (PairT F') ys ((foldsF n ds).1.map toP) → H b = none → Q (.ref b) H'
def spLeft (C : Addr) : Sp := fun vs H Q _ => ∃ (F : Hp) (v : V) (n : Nat) (ds : List (Int × Int)), vs = [v] ∧ Same F H ∧ FlrAt C F v n ds ∧ n ≤ 6 ∧
  ∀ F' H' b, Grow F H F' H' → F' b = none → H' b = some (.lst ((foldsF n ds).2.map nv)) → H b = none → Q (.ref b) H'
/-! the law's own -/
def spOnto : Sp := fun vs H Q _ => ∃ (F : Hp) (n : Nat) (v : V) (ds : List (Int × Int)) (l : Addr) (rest : List Nat) (p : Nat), vs = [nv n, v, .ref l, nv p] ∧ Same F H ∧ PairL F v ds ∧ n ≤ 6 ∧ H l = some (.lst (rest.map nv)) ∧ rest.length ≤ 100 ∧ (∀ p ∈ rest, p < n) ∧
  ∀ F' H' u, Grow F H F' H' → NatL F' u (rest.filter (covB n ds rest p)) → Q u H'
def spLFolds : Sp := fun vs H Q _ => ∃ (F : Hp) (n : Nat) (v : V) (ds : List (Int × Int)), vs = [nv n, v] ∧ Same F H ∧ PairL F v ds ∧ n ≤ 6 ∧
  ∀ F' H' t l1 l2, Grow F H F' H' → F' t = some (.tup [l1, l2]) → PairL F' l1 ((foldsF n ds).1.map toP) → NatL F' l2 (foldsF n ds).2 → Q (.ref t) H'
def spLike : Sp := fun vs H Q _ => ∃ (F : Hp) (a b : Addr) (ks : List Nat), vs = [.ref a, .ref b] ∧ Same F H ∧ H a = some (.lst (ks.map nv)) ∧ H b = some (.lst (ks.map nv)) ∧ ks.length ≤ 1000 ∧ ∀ F' H', Grow F H F' H' → Q (.bl true) H'
/-! ### finding -/
theorem findSome_at {α β : Type} {f : α → Option β} : ∀ {l : List α} {i : Nat} {x : α} {y : β}, l[i]? = some x → f x = some y → (∀ j z, j < i → l[j]? = some z → f z = none) → l.findSome? f = some y
  | [], i, x, y, h, _, _ => by simp at h
  | a :: l, 0, x, y, h, hf, _ => by
    simp at h
    subst h
    rw [List.findSome?_cons, hf]
  | a :: l, i + 1, x, y, h, hf, hn => by
    have h0 := hn 0 a (Nat.succ_pos i) rfl
    rw [List.findSome?_cons, h0]
    exact findSome_at (by simpa using h) hf fun j z hj hz => hn (j + 1) z (by omega) (by simpa using hz)
theorem find_at {α : Type} {p : α → Bool} : ∀ {l : List α} {i : Nat} {x : α}, l[i]? = some x → p x = true → (∀ j z, j < i → l[j]? = some z → p z = false) → l.find? p = some x
  | [], i, x, h, _, _ => by simp at h
  | a :: l, 0, x, h, hf, _ => by
    simp at h
    subst h
    rw [List.find?_cons, hf]
  | a :: l, i + 1, x, h, hf, hn => by
    have h0 := hn 0 a (Nat.succ_pos i) rfl
    rw [List.find?_cons, h0]
    exact find_at (by simpa using h) hf fun j z hj hz => hn (j + 1) z (by omega) (by simpa using hz)
theorem find_no {α : Type} {p : α → Bool} {l : List α} (h : ∀ (j : Nat) z, l[j]? = some z → p z = false) : l.find? p = none := by
  rw [List.find?_eq_none]
  intro x hx
  obtain ⟨j, hj, e⟩ := List.mem_iff_getElem.mp hx
  rw [h j x (by rw [List.getElem?_eq_getElem hj, e])]
  decide
theorem findSome_no {α β : Type} {f : α → Option β} {l : List α} (h : ∀ (j : Nat) z, l[j]? = some z → f z = none) : l.findSome? f = none := by
  rw [List.findSome?_eq_none_iff]
  intro x hx
  obtain ⟨j, hj, e⟩ := List.mem_iff_getElem.mp hx
  exact h j x (by rw [List.getElem?_eq_getElem hj, e])
theorem made_bind {α β : Type} (f : β → Option α) (l : List β) : made (fun (i : Nat) => (l[i]?).bind f) l.length = l.filterMap f := by
  have h := made_none (l.map f) l.length (by rw [List.length_map])
  rw [List.filterMap_map] at h
  have e : (fun (i : Nat) => ((l.map f)[i]?).bind id) = fun (i : Nat) => (l[i]?).bind f := by
    funext i
    rw [List.getElem?_map]
    cases l[i]? <;> rfl
  rw [e] at h
  exact h
theorem filterMap_if {α : Type} (q : α → Bool) : ∀ l : List α, (l.filterMap fun o => if q o = true then some o else none) = l.filter q
  | [] => rfl
  | a :: l => by
    rw [List.filterMap_cons, List.filter_cons, filterMap_if q l]
    cases q a <;> rfl
/-- what remove does -/
theorem erase_at {p : Nat} : ∀ {l : List Nat}, p ∈ l → ∃ j, l[j]? = some p ∧ (∀ m, m < j → l[m]? ≠ some p) ∧ l.eraseIdx j = l.erase p
  | [], h => by cases h
  | a :: l, h => by
    by_cases c : a = p
    · subst c
      exact ⟨0, rfl, fun m hm => absurd hm (Nat.not_lt_zero m), by simp⟩
    · have hp : p ∈ l := by
        rcases List.mem_cons.mp h with e | h
        · exact absurd e.symm c
        · exact h
      obtain ⟨j, h1, h2, h3⟩ := erase_at hp
      refine ⟨j + 1, by simpa using h1, fun m hm => ?_, ?_⟩
      · cases m with
        | zero =>
          intro e
          simp at e
          exact c e
        | succ m =>
          intro e
          exact h2 m (by omega) (by simpa using e)
      · rw [List.eraseIdx_cons_succ, h3, List.erase_cons_tail (by simpa using c)]
theorem asI_get {l : List Nat} {j : Nat} {k : Nat} : (asI l)[j]? = some (k : Int) ↔ l[j]? = some k := by
  unfold asI
  rw [List.getElem?_map]
  cases l[j]? with
  | none => simp
  | some z =>
    show some (z : Int) = some (k : Int) ↔ some z = some k
    rw [Option.some.injEq, Option.some.injEq]
    omega
theorem asI_eraseIdx : ∀ (l : List Nat) (j : Nat), (asI l).eraseIdx j = asI (l.eraseIdx j)
  | [], _ => rfl
  | a :: l, 0 => rfl
  | a :: l, j + 1 => by
    have ih := asI_eraseIdx l j
    unfold asI at ih ⊢
    rw [List.map_cons, List.eraseIdx_cons_succ, List.eraseIdx_cons_succ, List.map_cons, ih]
/-- something falls out of the view -/
theorem Grow.drop {F0 H0 F H : Hp} {p : Addr} (g : Grow F0 H0 F H) (h0 : F0 p = none) : Grow F0 H0 (fun a => if a = p then none else F a) H := by
  refine ⟨fun b o e => ?_, fun b o e => ?_, g.keep, fun b o e => ?_⟩
  · rw [if_neg (ne_of_none e h0)]
    exact g.ss _ _ e
  · by_cases c : b = p
    · rw [if_pos c] at e
      cases e
    · rw [if_neg c] at e
      exact g.sub _ _ e
  · by_cases c : b = p
    · rw [if_pos c] at e
      cases e
    · rw [if_neg c] at e
      exact g.new _ _ e
theorem foldsN_len (n : Nat) (ds : List (Int × Int)) : ∀ (k : Nat) (rest : List Nat), (foldsN n ds k rest).1.length ≤ k
  | 0, _ => Nat.le_refl _
  | k + 1, rest => by
    unfold foldsN
    cases foldP n ds rest with
    | none => exact Nat.zero_le _
    | some s =>
      have := foldsN_len n ds k (rest.erase s.1)
      show (s :: _).length ≤ _
      rw [List.length_cons]
      omega
theorem len_zero_all {arnd : List Nat} {p : Nat → Bool} {k : Nat} (h : k = (arnd.filter fun o => !p o).length) : V.int (k : Int) = V.int 0 ↔ arnd.all p = true := by
  subst h
  constructor
  · intro e
    have e := V.int.inj e
    have e : (arnd.filter fun o => !p o) = [] := List.length_eq_zero_iff.mp (by omega)
    rw [List.all_eq_true]
    intro o ho
    cases hb : p o with
    | true => rfl
    | false =>
      have : o ∈ (arnd.filter fun o => !p o) := List.mem_filter.mpr ⟨ho, by rw [hb]; rfl⟩
      rw [e] at this
      cases this
  · intro e
    have e2 : (arnd.filter fun o => !p o) = [] := List.filter_eq_nil_iff.mpr fun o ho => by
      rw [List.all_eq_true.mp e o ho]
      decide
    rw [e2]
    rfl
theorem dPrs_refl : ∀ ps : List (Int × Int), PyData.eqvAll (ps.map dPr) (ps.map dPr) = true
  | [] => by simp [PyData.eqvAll]
  | p :: ps => by
    have ih := dPrs_refl ps
    have h := dPr_eqv p p
    rw [decide_eq_true rfl] at h
    rw [List.map_cons, PyData.eqvAll, h, ih]
    rfl
theorem dPrs_eqL (ps : List (Int × Int)) : PyData.eqv (.list (ps.map dPr)) (.list (ps.map dPr)) = true := by
  have := dPrs_refl ps
  simpa [PyData.eqv] using this
/-- the places left near p, told as the law does -/
theorem cov_near {n : Nat} {ds : List (Int × Int)} {rest : List Nat} {p q : Nat} : covB n ds rest p q = (decide (q ≠ p) && ((nearF n ds p).filter fun o => decide (o ∈ rest)).all fun o => decide (o ∈ nearF n ds q)) := by
  unfold covB
  congr 1
  rw [Bool.eq_iff_iff, List.all_eq_true, List.all_eq_true]
  constructor
  · intro h o ho
    refine decide_eq_true (nearF_mem.mpr ⟨(nearF_mem.mp (List.mem_filter.mp ho).1).1, ?_⟩)
    rw [joinsB_comm]
    exact h o ho
  · intro h o ho
    have := of_decide_eq_true (h o ho)
    rw [joinsB_comm]
    exact (nearF_mem.mp this).2
end CF

/-! What runs within an except suite: the exception that is handled is pinned. -/
namespace CF
open PySem L2 PyProof.Rows
/-! ### a comprehension there -/
/-- the block's context, with what is pinned -/
abbrev bkP (X : Cx) (s : Shared) (H : Hp) (scope : Scope) (cenv : Env) (fp : List Addr) (pn : List (Addr × Obj)) : Cx := (X.blk s H scope cenv fp).tr pn (fun _ _ => False)
section
variable {X : Cx} {tg iter elt : Expr} {ifs : List Expr} {scope : Scope} {own : List (Str × Nat)} {pos : Pos} {wi : TI} {g : TG} {tt : TT} {te : TE}
theorem lc_hot {pins : List (Addr × Obj)} {s : Shared} {σ : L2.St} {H : Hp} {Q : VK} {p' : Pos} (hot : L2H.HotC X) (hN : X.N.Nodup) (I : Inv X pins σ H s) (hi : L2H.PIH X tg iter wi) (ok : BlkOk X.N X.env.scope scope own)
    (hg : ∀ s H C cl fp pn, PG (bkP X s H scope (compEnvC scope cl C X.env) fp pn) tg g) (ht : ∀ s H C cl fp pn, PTs (bkP X s H scope (compEnvC scope cl C X.env) fp pn) ifs tt) (he : ∀ s H C cl fp pn, PE (bkP X s H scope (compEnvC scope cl C X.env) fp pn) elt te)
    (hs : ∀ x, foldedSetIterable iter X.env x = pure x) (h : tLc wi g tt te (own.map (·.2)) σ H Q) :
    wpAny (model X.prog X.w) X.A (comprehension (.ListComp elt [⟨tg, iter, ifs, 0⟩] scope pos) scope X.env p' (newList []) false (eval iter X.env)) (EP X pins σ Q) X.xe s := by
  have cellsOf : ∀ y ∈ scope.names, y.2 = .free → ∃ c, X.env.cells.lookup y.1 = some c := fun y hy e => (ok.free y hy e).elim (fun k => I.ok.has _ (.inl k)) fun k => I.ok.has _ (.inr k)
  refine wpAny_comprehension_free (use := none) rfl hs (closure_ok cellsOf) ok.kind (fun y hy e => (ok.uniq y hy).trans (congrArg some e)) (thn (hi.run pins s σ H _ I h) fun xv z1 hx => thn hx fun itv z2 hz2 => ?_)
  obtain ⟨it, fp, tn, J, K2, e, J2, T, sT2, fT2, q⟩ := hz2
  subst e
  refine wpAny_newObj_type (newEnv_comp ?_) (by show 0 ≤ sizeLine; decide)
  obtain ⟨D, hD⟩ : ∃ D, z2.heap.objs.size = D := ⟨_, rfl⟩
  rw [hD]
  have nD : K2 D = none := J2.hok.fresh (Nat.le_of_eq hD)
  obtain ⟨W, ⟨m0, w0⟩, turn⟩ := q D nD
  obtain ⟨z3, hz3⟩ : ∃ z3 : Shared, z3 = { z2 with heap := z2.heap.push { cls := .type "list", data := .seq ([] : List Value).toArray } } := ⟨_, rfl⟩
  rw [← hz3]
  have J3 : Inv X pins σ (upd K2 D (.lst [])) z3 := by
    rw [hz3]
    exact J2.laid (t' := z2.toks) (fun b o e => Heap.get?_push_of_some _ e) (Nat.le_of_eq hD) ⟨Nat.zero_le _, [], 0, .nil, by rw [← hD]; exact Heap.get?_push_size _ rfl⟩
  have up23 : ∀ b o, z2.heap.get? b = some o → z3.heap.get? b = some o := fun b o e => by rw [hz3]; exact Heap.get?_push_of_some _ e
  have fT3 : ∀ b ∈ fp, FpOk X pins (upd K2 D (.lst [])) b ∧ b < z3.heap.objs.size := fun b hb => by
    obtain ⟨o, eo, _⟩ := T.obj _ _ sT2 b hb
    have lt2 := Heap.lt_size eo
    exact ⟨⟨by rw [upd_ne (by rw [← hD]; exact Nat.ne_of_lt lt2)]; exact (fT2 b hb).1, (fT2 b hb).2⟩, Heap.lt_size (up23 b o eo)⟩
  have sT3 : tn 0 z3.heap := T.keep _ _ _ sT2 fun b _ => up23 b
  have B4 := block_start J3 ok hN fT3
  obtain ⟨cl, hcl⟩ : ∃ cl, cl = cellsFrom (z3.heap.objs.size + 1) scope.names (cloFrom X.env.cells scope.names []) := ⟨_, rfl⟩
  rw [← hcl] at B4 ⊢
  obtain ⟨z4, hz4⟩ : ∃ z4 : Shared, z4 = { z3 with heap := pushCells (z3.heap.push { cls := .type "dict", data := .dict #[] }) scope.names } := ⟨_, rfl⟩
  rw [← hz4] at B4 ⊢
  have up34 : ∀ b o, z3.heap.get? b = some o → z4.heap.get? b = some o := fun b o e => by rw [hz4]; exact pushCells_keeps _ _ _ _ (Heap.get?_push_of_some _ e)
  obtain ⟨H3, hH3⟩ : ∃ H3, H3 = upd K2 D (.lst []) := ⟨_, rfl⟩
  rw [← hH3] at J3 B4 fT3 w0
  -- the pins go with
  have pinB : ∀ r ∈ X.pn ++ pins, z4.heap.get? r.1 = some r.2 ∧ H3 r.1 = none ∧ r.1 ≠ z3.heap.objs.size ∧ r.1 ∉ frs X.stack ∧ ∀ v, r.2.data ≠ .cell v := fun r hr => by
    obtain ⟨p1, p2, p3, p4, p5⟩ := J3.pin r hr
    exact ⟨up34 _ _ p1, p2, Nat.ne_of_lt (Heap.lt_size p1), fun hm => (List.mem_cons.mp (J3.stkSub r.1 hm)).elim p3 p4, p5⟩
  have C4 : Inv (bkP X z3 H3 scope (compEnvC scope cl z3.heap.objs.size X.env) fp (X.pn ++ pins)) [] (wipe σ (own.map (·.2))) H3 z4 :=
    ⟨B4.ok.toTry _ _, B4.os, B4.bare, B4.base, B4.loc, B4.cell, B4.free, B4.freeC, fun r hr => pinB r (by rwa [List.append_nil] at hr), B4.hok, B4.len⟩
  have hotB : L2H.HotC (bkP X z3 H3 scope (compEnvC scope cl z3.heap.objs.size X.env) fp (X.pn ++ pins)) := by
    obtain ⟨p, h1, h2⟩ := hot
    exact ⟨p, h1, List.mem_append_left _ h2⟩
  have pg := hg z3 H3 z3.heap.objs.size cl fp (X.pn ++ pins)
  have pt := ht z3 H3 z3.heap.objs.size cl fp (X.pn ++ pins)
  have pe := he z3 H3 z3.heap.objs.size cl fp (X.pn ++ pins)
  have sT4 : tn 0 z4.heap := T.keep _ _ _ sT3 fun b _ => up34 b
  have nf3 : ∀ b ∈ fp, H3 b = none := fun b hb => (fT3 b hb).1.1
  have npin : ∀ b ∈ fp, ∀ r ∈ X.pn ++ pins, r.1 ≠ b := fun b hb => (fT3 b hb).1.2.2.2.2.2
  obtain ⟨ce, hce⟩ : ∃ ce, ce = compEnvC scope cl z3.heap.objs.size X.env := ⟨_, rfl⟩
  have cL : ce.locals = z3.heap.objs.size := by rw [hce]; rfl
  rw [← hce] at C4 hotB pg pt pe
  have stat : ∀ {σ' : L2.St} {K' : Hp} {z' : Shared}, Inv (bkP X z3 H3 scope ce fp (X.pn ++ pins)) [] σ' K' z' → (∀ b ∈ fp, K' b = none) → ∀ b ∈ fp, FpOk (bkP X z3 H3 scope ce fp (X.pn ++ pins)) [] K' b := fun {σ' K' z'} L hn b hb =>
    ⟨hn b hb, (L.ok.exf b hb).1, L.ok.exfs b hb, .inl hb, fun x c e => (L.ok.exf b hb).2 x c e, fun r hr => npin b hb r (by rwa [List.append_nil] at hr)⟩
  have loop : codeAny (model X.prog X.w) X.A (.compLoop (.ListComp elt [⟨tg, iter, ifs, 0⟩] scope pos) 0 (.ref it) (.ref D) ce) (compPost (model X.prog X.w) X.A X.xe none (EP X pins σ Q) (.ref D) z3.heap.objs.size) z4 := by
    refine compLoop_any (fun n z' => ∃ i K', Inv (bkP X z3 H3 scope ce fp (X.pn ++ pins)) [] (wipe σ (own.map (·.2))) K' z' ∧ tn i z'.heap ∧ (∀ b ∈ fp, K' b = none) ∧ W i n K') ?_ m0 ⟨0, H3, C4, sT4, nf3, w0⟩
    rintro n z5 ⟨i, K5, C5, sT5, nf5, w5⟩
    rcases turn i n K5 w5 with ⟨stop, qq⟩ | ⟨go, Nx, hNx, step⟩
    · refine thnF (T.done (bkP X z3 H3 scope ce fp (X.pn ++ pins)) rfl rfl rfl hotB i [] z5 _ K5 (fun _ _ => False) C5 (stat C5 nf5) sT5 stop) fun r z6 ⟨hr, C6⟩ => ?_
      subst hr
      have J6 : Inv X pins σ K5 z6 := J3.call' (ch := fp) C6.os C6.base C6.hok C6.bare fun b hb => ⟨(fT3 b hb).1.2.2.2.1, (fT3 b hb).1.2.1, (fT3 b hb).1.2.2.2.2.1, npin b hb⟩
      have nC : K5 z3.heap.objs.size = none := cL ▸ (show K5 ce.locals = none from C6.free)
      obtain ⟨m, hm, _⟩ := C6.loc
      have hm : z6.heap.Ns z3.heap.objs.size m := cL ▸ (show z6.heap.Ns ce.locals m from hm)
      obtain ⟨f0, f1, f2, f3, f4, f5⟩ := J3.fpOk (H' := K5) (Nat.le_refl _) nC
      exact ⟨m, hm, fun h'' sb => ⟨.ref D, K5, J6.turned (t' := z6.toks) (fun b o hb e => (sb.2 b hb).trans e) f0 f1 f3 f4 f5, rfl, qq⟩⟩
    · refine thnF (T.item (bkP X z3 H3 scope ce fp (X.pn ++ pins)) rfl rfl rfl hotB i [] z5 _ K5 (fun _ _ => False) C5 (stat C5 nf5) sT5 go) fun r z6 ⟨u, hr, h6⟩ => ?_
      subst hr
      refine thnF h6 fun _ z7 ⟨x, K7, C7, r7, y7, sT7, nf7⟩ => ?_
      refine thnF (pg.run _ z7 _ K7 x u _ (C7.pinned (stat C7 nf7) (T.obj _ _ sT7)) r7 (step x K7 y7)) fun _ z8 ⟨σ8, K8, C8, hw8, q8⟩ => thnF (pt.run _ z8 σ8 K8 _ C8 q8) fun b z9 ⟨K9, C9, q9⟩ => ?_
      have fin : ∀ {z' : Shared} {K' : Hp}, Inv (bkP X z3 H3 scope ce fp (X.pn ++ pins)) ([] ++ pinsAt fp z7.heap) σ8 K' z' → Nx K' → ∃ m, m < n ∧ ∃ i K', Inv (bkP X z3 H3 scope ce fp (X.pn ++ pins)) [] (wipe σ (own.map (·.2))) K' z' ∧ tn i z'.heap ∧ (∀ b ∈ fp, K' b = none) ∧ W i m K' := fun {z' K'} L nx => by
        obtain ⟨m', hm, w'⟩ := hNx K' nx
        have at' : ∀ b ∈ fp, ∀ o, z7.heap.get? b = some o → z'.heap.get? b = some o ∧ K' b = none := fun b hb o e => ⟨(L.pin (b, o) (List.mem_append_right _ (List.mem_append_right _ (mem_pinsAt hb e)))).1, (L.pin (b, o) (List.mem_append_right _ (List.mem_append_right _ (mem_pinsAt hb e)))).2.1⟩
        refine ⟨m', hm, i + 1, K', (L.unpinned (pins := [])).weak (by rw [← hw8, wipe_length]) (fun j v e => (wipe_some (by rw [← hw8] at e; exact e)).1), T.keep _ _ _ sT7 fun b hb o e => (at' b hb o e).1, fun b hb => ?_, w'⟩
        obtain ⟨o, e, _⟩ := T.obj _ _ sT7 b hb
        exact (at' b hb o e).2
      cases b with
      | false => exact fin C9 q9
      | true =>
        show wpAny _ _ (eval elt ce) _ _ _
        refine thnF (pe.run _ z9 σ8 K9 _ C9 q9) fun z z10 ⟨yv, K10, C10, r10, acc, hD10, hz10, nx⟩ => ?_
        exact app_ok (X := bkP X z3 H3 scope ce fp (X.pn ++ pins)) C10 hD10 hz10 r10 fun z11 C11 => fin C11 nx
  rw [hce] at loop
  exact codeAny_compStart_list loop (T.self X.A 0 _ _ _ sT4 loop)
end
end CF

namespace CF
open PySem L2 PyProof.Rows
section
variable {X : Cx} {tg iter elt : Expr} {ifs : List Expr} {scope : Scope} {own : List (Str × Nat)} {pos : Pos} {wi : TI} {g : TG} {tt : TT} {te : TE}
theorem pe_lcH (hot : L2H.HotC X) (hN : X.N.Nodup) (hi : L2H.PIH X tg iter wi) (ok : BlkOk X.N X.env.scope scope own)
    (hg : ∀ s H C cl fp pn, PG (bkP X s H scope (compEnvC scope cl C X.env) fp pn) tg g) (ht : ∀ s H C cl fp pn, PTs (bkP X s H scope (compEnvC scope cl C X.env) fp pn) ifs tt) (he : ∀ s H C cl fp pn, PE (bkP X s H scope (compEnvC scope cl C X.env) fp pn) elt te)
    (hs : ∀ x, foldedSetIterable iter X.env x = pure x := by intro _; rfl) : PE X (.ListComp elt [⟨tg, iter, ifs, 0⟩] scope pos) (tLc wi g tt te (own.map (·.2))) := by
  refine ⟨fun pins s σ H Q I h => ?_⟩
  rw [eval_ListComp]
  exact lc_hot hot hN I hi ok hg ht he hs h
/-- isinstance(e, c), e the exception that is handled -/
theorem call_isP {p : Addr × Obj} {D : Addr} (C : ExcC X.K D) (hp : p ∈ X.pn) (hz : Zc (.ref D) none p.2) (hf : ∃ vs, p.2.data = .fields vs) : CallR X (.builtin "isinstance") (rIsE X.K D p.1) := by
  rintro pins s σ H _ us Q I r ⟨c, cv, b, rfl, hcv, e, q⟩
  obtain ⟨u1, u2, rfl, r1, r2⟩ := vals2 r
  obtain rfl : u1 = Value.ref p.1 := r1
  have e2 := hcv _ r2
  subst e2
  have pin := (I.pin p (List.mem_append_left _ hp)).1
  have J : PySem.W.InstAt s.heap p.1 p.2 D none := by
    obtain ⟨x, ⟨oc, od, oda, osl⟩⟩ := p
    obtain ⟨vs, hv⟩ := hf
    obtain ⟨h1, h2⟩ := hz
    dsimp only at h1 h2 hv
    subst h1 h2 hv
    exact ⟨pin, rfl, rfl, trivial⟩
  exact PySem.W.kia_one (PySem.W.handS_kitx_exc C.hg C.hk C.hs C.hd C.ha C.hn C.ht C.hm) I.kIn J e (fun z => nomatch z) fun tk => ⟨.bl b, H, I.tok tk, rfl, q⟩
end
/-! ### a def called there, the exception among its arguments -/
structure FnE (P : Program) (w : World) (K : PySem.W.Frag) (mg : Str → Option Value) (base : Heap) (k : Nat) (f : Addr) (fd : FuncData) (ps : List Str) (sp : Addr → Addr → Sp) : Prop where
  len : ∀ a D vs H Q E, sp a D vs H Q E → vs.length = ps.length
  run : ∀ (A : Around) (outer : List Env) (s : Shared) (H : Hp) (args : Args) (us : List Value) (vs : List V) (Q : VK) (p : Addr × Obj) (D : Addr), L2H.RoomH k A → L2H.Hot1 A p → Zc (.ref D) none p.2 → L2H.PinOk outer H s p → Env0 P w K mg base A outer s H → BindsTo s fd args (ps.zip us) → Vals vs us →
    sp p.1 D vs H Q E0 → codeAny (model P w) A (.call (.ref f) args) (CR CX0 outer P w H s Q E0) s
theorem Fun_okE {P : Program} {w : World} {K : PySem.W.Frag} {mg : Str → Option Value} {base : Heap} {x qual : Str} {st : Stmt} {f : Addr} {fd : FuncData} {N ps : List Str} {k : Nat} {sp : Addr → Addr → Sp} (F : Fun K x qual st f fd) (S : FnScope N ps (defScope st)) (len : ∀ a D vs H Q E, sp a D vs H Q E → vs.length = ps.length)
    (body : ∀ (cdv : Value) (A : Around) (outer : List Env) (s : Shared) (H : Hp) (vs : List V) (Q : VK) (p : Addr × Obj) (D : Addr), L2H.Hot1 A p → Zc (.ref D) none p.2 → L2H.RoomH k (A.deeper (envOfC qual (defScope st) s.heap.objs.size f cdv)) → sp p.1 D vs H Q E0 →
      ∃ t, PSs (L2H.cxH CX0 P w K mg base N qual (defScope st) f cdv A outer s H E0 p) (defBody st) t ∧ t { nx := fun _ H' => Q .non H', rt := Q } (start N vs) H) : FnE P w K mg base (k + 1) f fd ps sp := by
  obtain ⟨oc, od, kV, doc, pm, an, cdv, ct, osl, rfl, lk, hcd⟩ := F.ex
  refine ⟨len, fun A outer s H args us vs Q p D hr hot hz hpin e0 hb r hsp => ?_⟩
  have kin : K.In s.heap := e0.mod.kin.keeps fun b o e => (e0.bs b o e).1
  have kinds : ∀ y ∈ ps.zip us, (defScope st).names.lookup y.1 = some .local ∨ ((defScope st).names.lookup y.1 = some .cell ∧ ((cellsFrom (s.heap.objs.size + 1) (defScope st).names []).lookup y.1).isSome = true) := fun y hy =>
    (S.par y.1 (List.of_mem_zip (a := y.1) (b := y.2) hy).1).imp id fun z => ⟨z, PySem.W.cellsFrom_some _ _ _ (.inl z)⟩
  refine codeAny_call_function hr.depth (kin _ _ lk) rfl S.co S.gen rfl (PySem.W.codeRec_of kin hcd) (hb _ _ _ _ (wpAny_newFunctionEnv_cells S.kind kinds fun env he z x => ?_))
  subst he
  refine ⟨(e0.mod.nolimit.keeps fun b o e => (e0.bs b o e).1).keeps x.toInCall.keep, codeAny_func ?_⟩
  obtain ⟨t, ht, hq⟩ := body cdv A outer s H vs Q p D hot hz (hr.deeper _) hsp
  refine wpAny_mono (ht.run [] z (start N vs) H _ (L2H.inv_startH S hpin e0 (len _ _ _ _ _ _ hsp) r x) hq) (fun fl z' hs => ?_) fun e z' hs => hs
  cases fl with
  | ret u =>
    obtain ⟨v, σ', H', J, rv, q⟩ := hs
    exact (⟨v, H', J.os, J.bare, J.base, J.hok, rv, q⟩ : CE outer P w H s Q u z')
  | next =>
    obtain ⟨σ', H', J, q⟩ := hs
    exact (⟨.non, H', J.os, J.bare, J.base, J.hok, rfl, q⟩ : CE outer P w H s Q .none z')
  | brk => exact hs.elim fun _ h => h.elim fun _ h => h.2.elim
  | cont => exact hs.elim fun _ h => h.elim fun _ h => h.2.elim
section
variable {X : Cx} {k j : Nat} {f : Addr} {fd : FuncData} {ps : List Str} {sp : Addr → Addr → Sp} {x : Str} {q pos : Pos} {e : Expr} {es : List Expr} {t : TA}
/-- f(e, ..) there -/
theorem pe_callE {p : Addr × Obj} {D : Addr} (F : FnE X.prog X.w X.K X.mg X.base k f fd ps sp) (hr : L2H.RoomH k X.A) (hot : L2H.Hot1 X.A p) (hp : p ∈ X.pn) (hz : Zc (.ref D) none p.2) (hg : Gl X x) (hm : X.mg x = some (.ref f)) (hk : PySem.W.keepIn X.K (.ref f) = true) (hb : Binds X.K fd ps [])
    (ha : PA X (e :: es) t) (hdb : (x == ("__debug__" : Str)) = false := by decide) (he : starEach (e :: es) X.env = (false, eval e X.env) :: starEach es X.env := by rfl) (hpl : (backTo pos (starEach es X.env)).any (·.1) = false := by rfl) :
    PE X (.Call (.Name x q) (e :: es) [] pos) (tCall (sp p.1 D) [] E0 t) := by
  refine ⟨fun pins s σ H Q I h => ?_⟩
  refine wpAny_Call_Name_kw (ld_glob I hg hm (PySem.W.callWith_K (h₀ := X.base) I.ok.mod.kin hk (thn (ha.run pos pins s σ H _ I h) fun us z ⟨vs, H1, I1, r, w⟩ => ⟨I1.kIn, ?_⟩) he hpl) hdb)
  have w : sp p.1 D (vs ++ []) H1 Q E0 := w
  rw [List.append_nil] at w
  have b := hb z us I1.kIn (by rw [List.append_nil, ← r.length]; exact F.len _ _ _ _ _ _ w)
  rw [List.append_nil] at b
  obtain ⟨p1, p2, p3, p4, p5⟩ := I1.pin p (List.mem_append_left _ hp)
  refine wpAny_call (codeAny_mono (F.run X.A X.stack z H1 ⟨us, []⟩ us vs Q p D hr hot hz ⟨p1, p2, fun m => (List.mem_cons.mp (I1.stkSub p.1 m)).elim p3 p4, p5⟩ I1.env0 b r w) fun res z' hq => ?_)
  cases res with
  | error e => exact hq.elim
  | ok fl =>
    cases fl with
    | ret u => exact I1.after hq
    | next => exact hq.elim
    | brk => exact hq.elim
    | cont => exact hq.elim
end
end CF

namespace CF
open PySem L2 PyProof.Rows
/-! ### which refusal it is -/
structure CalE (P : Program) (w : World) (K : PySem.W.Frag) (mg : Str → Option Value) (base : Heap) (k : Nat) (x : Str) (ps : List Str) (sp : Addr → Addr → Sp) : Prop where
  ex : ∃ (f : Addr) (fd : FuncData), FnE P w K mg base k f fd ps sp ∧ mg x = some (.ref f) ∧ PySem.W.keepIn K (.ref f) = true ∧ Binds K fd ps []
section
variable {X : Cx} {k j : Nat} {ps : List Str} {sp : Addr → Addr → Sp} {x : Str} {q pos : Pos} {e : Expr} {es : List Expr} {t : TA}
theorem pe_clE {p : Addr × Obj} {D : Addr} (c : CalE X.prog X.w X.K X.mg X.base k x ps sp) (hr : L2H.RoomH j X.A) (hot : L2H.Hot1 X.A p) (hp : p ∈ X.pn) (hz : Zc (.ref D) none p.2) (hg : Gl X x) (ha : PA X (e :: es) t) (hk : k ≤ j := by decide)
    (hdb : (x == ("__debug__" : Str)) = false := by decide) (he : starEach (e :: es) X.env = (false, eval e X.env) :: starEach es X.env := by rfl) (hpl : (backTo pos (starEach es X.env)).any (·.1) = false := by rfl) :
    PE X (.Call (.Name x q) (e :: es) [] pos) (tCall (sp p.1 D) [] E0 t) := by
  obtain ⟨f, fd, F, hm, kp, b⟩ := c.ex
  exact pe_callE F (hr.mono hk) hot hp hz hg hm kp b ha hdb he hpl
theorem pss_only {st : List Stmt} {cls : Value} {d : Option Addr} {t : Addr → TS} (h : ∀ D, cls = .ref D → d = none → PSs X st (t D)) : PSs X st (fun D0 σ H => ∃ D, cls = .ref D ∧ d = none ∧ t D D0 σ H) :=
  ⟨fun pins s σ H D0 I ⟨D, h1, h2, h3⟩ => (h D h1 h2).run pins s σ H D0 I h3⟩
end
/-- the five kinds, in the law's order -/
def kinds : List Str := ["NoFloor", "NoStanding", "Caught", "Free", "NoNumber"]
/-- what is known of the class at D, the kind i -/
structure Oth (K : PySem.W.Frag) (mg : Str → Option Value) (D : Addr) (i : Nat) : Prop where
  exc : ExcC K D
  c0 : ∃ C, mg "NoFloor" = some (.ref C) ∧ PySem.W.kitOne K (.ref D) (.ref C) = some (decide (i = 0))
  c1 : ∃ C, mg "NoStanding" = some (.ref C) ∧ PySem.W.kitOne K (.ref D) (.ref C) = some (decide (i = 1))
  c2 : ∃ C, mg "Caught" = some (.ref C) ∧ PySem.W.kitOne K (.ref D) (.ref C) = some (decide (i = 2))
  c3 : ∃ C, mg "Free" = some (.ref C) ∧ PySem.W.kitOne K (.ref D) (.ref C) = some (decide (i = 3))
  c4 : ∃ C, mg "NoNumber" = some (.ref C) ∧ PySem.W.kitOne K (.ref D) (.ref C) = some (decide (i = 4))
  ve : PySem.W.kitOne K (.ref D) (.type "ValueError") = some true
/-- is it of another kind than wanted -/
def spOther (K : PySem.W.Frag) (mg : Str → Option Value) (a D : Addr) : Sp := fun vs H Q _ => ∃ j i : Nat, vs = [.ref a, nv j] ∧ j < 5 ∧ i < 5 ∧ Oth K mg D i ∧ ∀ H', Same H H' → Q (.bl (decide (j ≠ i))) H'
/-- the classes' names stand in the text -/
structure Five (mg : Str → Option Value) : Prop where
  c0 : ∃ C, mg "NoFloor" = some (.ref C)
  c1 : ∃ C, mg "NoStanding" = some (.ref C)
  c2 : ∃ C, mg "Caught" = some (.ref C)
  c3 : ∃ C, mg "Free" = some (.ref C)
  c4 : ∃ C, mg "NoNumber" = some (.ref C)
def dBs (bs : List Bool) : List PyData := bs.map PyData.bool
theorem dBs_eqv : ∀ is js : List Bool, PyData.eqvAll (dBs is) (dBs js) = decide (is = js)
  | [], [] => by simp [dBs, PyData.eqvAll]
  | [], j :: js => by simp [dBs, PyData.eqvAll]
  | i :: is, [] => by simp [dBs, PyData.eqvAll]
  | i :: is, j :: js => by
    have ih := dBs_eqv is js
    unfold dBs at ih ⊢
    simp [PyData.eqvAll, PyData.eqv, ih, Bool.beq_eq_decide_eq, Bool.decide_and]
theorem dBs_lay : ∀ is : List Bool, PyData.canLayAll0 (dBs is) = true
  | [] => rfl
  | i :: is => by
    have ih := dBs_lay is
    unfold dBs at ih ⊢
    rw [List.map_cons, PyData.canLayAll0, ih]
    simp [PyData.canLay0]
theorem dBs_depth : ∀ is : List Bool, PyData.depthAll (dBs is) = 0
  | [] => by simp [dBs, PyData.depthAll]
  | i :: is => by
    have ih := dBs_depth is
    unfold dBs at ih ⊢
    rw [List.map_cons, PyData.depthAll, ih]
    simp [PyData.depth]
theorem dBs_shaped (is : List Bool) : SeqAt.shaped (.list (dBs is)) = true := by
  have h1 := dBs_lay is
  have h2 := dBs_depth is
  simp only [SeqAt.shaped, PyData.canLay0, PyData.depth, h1, h2, Bool.true_and]
  exact decide_eq_true (by omega)
theorem dBs_dpAll {K : PySem.W.Frag} {H : Hp} : ∀ is : List Bool, DpAll K H (is.map V.bl) (dBs is)
  | [] => .nil
  | i :: is => .cons (.bl i) (dBs_dpAll is)
theorem dBs_eqL (is js : List Bool) : PyData.eqv (.list (dBs is)) (.list (dBs js)) = decide (is = js) := by
  have := dBs_eqv is js
  simpa [PyData.eqv] using this
def RBl (_ : Hp) (v : V) (b : Bool) : Prop := v = .bl b
theorem rbl_ext : ∀ F F' v x, Same F F' → RBl F v x → RBl F' v x := fun _ _ _ _ _ h => h
theorem rbl_map {F : Hp} {ys : List V} {ks : List Bool} (h : Paired (RBl F) ys ks) : ys = ks.map V.bl := by
  induction h with
  | nil => rfl
  | cons r t ih =>
    rw [List.map_cons, ← ih]
    congr 1
end CF

namespace CF
open PySem L2 PyProof.Rows
section
variable {X : Cx} {C : Addr} {m : Str} {k j : Nat} {ps : List Str} {sp : Sp} {pos apos : Pos} {o e : Expr} {es : List Expr} {to : TE} {ta : TA} {W : WX}
/-- o.m(e, ..), its exceptions wished W -/
theorem pe_mtS {pl : Sem Bool} (c : Met X.prog X.w X.K X.mg X.base C k m ps sp) (cl : Cls X.K C) (hr : Room j X.A) (tk : L2N.Takes X W) (ho : PE X o to) (ha : PA X (e :: es) ta) (hk : k ≤ j := by decide)
    (hst : starEach (e :: es) X.env = (false, eval e X.env) :: starEach es X.env := by rfl) (hpl : (backTo pos (starEach es X.env)).any (·.1) = false := by rfl)
    (ht : eval (.Call (.Attribute o m apos) (e :: es) [] pos) X.env = (do let ov ← eval o X.env; standAt apos.atName; let (f, first) ← holding [ov] (getMethod ov m pl); callWith pos f first (backTo pos (starEach (e :: es) X.env)) (backToKw pos (keywordEach [] X.env))) := by rfl) :
    PE X (.Call (.Attribute o m apos) (e :: es) [] pos) (L2H.tMethH C m sp (WE W) to ta) := by
  obtain ⟨f, fd, F, hm, b⟩ := c.ex
  refine ⟨fun pins s σ H Q I h => PySem.W.methodCall_KW (pl := pl) (thn (ho.run pins s σ H _ I h) fun u z1 ⟨x, H1, I1, rx, a, dx, fs, ex, ea, l, q⟩ => ?_) ht⟩
  subst ex
  obtain rfl : u = Value.ref a := rx
  refine getmeth_ok I1 ea cl hm l (PySem.W.callWith_K (first := [.ref a]) (h₀ := X.base) I1.ok.mod.kin hm.kp (thn (ha.run pos pins z1 σ H1 _ I1 q) fun us z2 ⟨vs, H2, I2, r, q2⟩ => ⟨I2.kIn, ?_⟩) hst hpl)
  exact run_fnS (us := .ref a :: us) (vs := .ref a :: vs) F (hr.mono hk) b (L2N.passAt tk σ) I2 (.cons rfl r) q2
end
/-- a refusal of kind i: its class at D, all refusals' class at CE -/
structure Rfs (K : PySem.W.Frag) (mg : Str → Option Value) (x : Str) (D : Addr) (i : Nat) : Prop where
  oth : Oth K mg D i
  ex : ∃ CE, mg "ChaseError" = some (.ref CE) ∧ PySem.W.exmOne K (.ref D) (.ref CE) = some true
/-- the suite: return not _law_other(e, k) -/
def tSuite (K : PySem.W.Frag) (mg : Str → Option Value) (i : Nat) (kk : V) : Addr → Value → Option Addr → TS := fun a cls d D0 σ H => ∃ D, cls = .ref D ∧ d = none ∧ tRet (tNotV (tCall (spOther K mg a D) [] E0 (tCons (tVar i) (tCons (tC kk) tNil)))) D0 σ H
theorem hot_suite {A : Around} {a : Addr} {oe : Obj} {cls : Value} {d : Option Addr} (hz : L2N.Zn cls d oe) (hf : ∃ vs, oe.data = .fields vs) : L2H.Hot1 (A.mark (some (.ref a))) (a, oe) := by
  obtain ⟨vs, hv⟩ := hf
  exact ⟨rfl, vs, hv, hz.2.2 vs hv⟩
end CF

namespace CF
open PySem L2 PyProof.Rows
/-! ### the plan: one less -/
theorem rk_step {n : Nat} {ds : List (Int × Int)} {c : Nat} {cs : List Nat} {r h : Nat} (hk : ranksF n ds c cs r = some (h + 1)) : ∃ g ∈ glF (arF n ds) cs, behF (nearF n ds r) (ranksF n ds c) g r = some h := by
  obtain ⟨h1, h2⟩ := rk_iff.mp hk
  rcases lap_iff.mp h1 with h1 | ⟨hcs, hr, g, hg, hb⟩
  · rw [h2 h (Nat.lt_succ_self h)] at h1
    cases h1
  refine ⟨g, hg, ?_⟩
  have low : ∀ t, (behF (nearF n ds r) (lapN n ds c t) g r).isSome = true → h ≤ t := fun t e => by
    have := lap_iff.mpr (.inr ⟨hcs, hr, g, hg, e⟩)
    rcases Nat.lt_or_ge t h with z | z
    · rw [h2 (t + 1) (by omega)] at this
      cases this
    · exact z
  by_cases c0 : r ∈ g
  · have := low 0 (behF_iff.mpr (.inl c0))
    have : h = 0 := by omega
    rw [this, behF_in c0]
  · have hall : ∀ p ∈ nearF n ds r, (lapN n ds c h g p).isSome = true := (behF_iff.mp hb).resolve_left c0
    have hrk : ∀ p ∈ nearF n ds r, ∃ k, ranksF n ds c g p = some k ∧ k ≤ h ∧ lapN n ds c h g p = some k := fun p hp => by
      obtain ⟨k, hk⟩ := Option.isSome_iff_exists.mp (hall p hp)
      exact ⟨k, by rw [rk_of_lap (hall p hp), hk], (lap_first hk).1, hk⟩
    obtain ⟨M, m1, m2, m3, m4⟩ := behAll (ranksF n ds c) g (nearF n ds r) 0 fun p hp => by
      obtain ⟨k, e, _⟩ := hrk p hp
      rw [e]
      rfl
    have hM : M ≤ h := by
      rcases m3 with e | ⟨p, hp, e⟩
      · omega
      · obtain ⟨k, e2, hk, _⟩ := hrk p hp
        rw [e] at e2
        cases e2
        exact hk
    have hM2 : h ≤ M := low M (behF_iff.mpr (.inr fun p hp => by
      obtain ⟨k, e, _, e2⟩ := hrk p hp
      have := m4 p hp k e
      obtain ⟨_, f2, _⟩ := lap_first e2
      rw [lap_some_le f2 this]
      exact f2))
    unfold behF
    rw [if_neg c0, m1]
    congr 1
    omega
/-- the plan's step is one of the goings, one less behind it -/
theorem chF_step {n : Nat} {ds : List (Int × Int)} {cs : List Nat} {r h : Nat} (hk : ranksF n ds cs.length cs r = some (h + 1)) : (glF (arF n ds) cs).find? (chB n ds cs r (h + 1)) = some (chF n ds cs r (h + 1)) ∧ chF n ds cs r (h + 1) ∈ glF (arF n ds) cs ∧ behF (nearF n ds r) (ranksF n ds cs.length) (chF n ds cs r (h + 1)) r = some h := by
  obtain ⟨g, hg, hb⟩ := rk_step hk
  have hgb : chB n ds cs r (h + 1) g = true := by
    unfold chB
    rw [hb]
    refine decide_eq_true ?_
    show V.int (h : Int) = V.int (((h + 1 : Nat) : Int) - 1)
    congr 1
    omega
  cases e : (glF (arF n ds) cs).find? (chB n ds cs r (h + 1)) with
  | none =>
    rw [List.find?_eq_none] at e
    exact absurd hgb (e g hg)
  | some g' =>
    have e2 : chF n ds cs r (h + 1) = g' := by
      unfold chF
      rw [e]
      rfl
    refine ⟨by rw [e2], by rw [e2]; exact List.mem_of_find?_eq_some e, ?_⟩
    rw [e2]
    have := List.find?_some e
    unfold chB at this
    have := of_decide_eq_true this
    cases e3 : behF (nearF n ds r) (ranksF n ds cs.length) g' r with
    | none =>
      rw [e3] at this
      cases this
    | some k =>
      rw [e3] at this
      have := V.int.inj (show V.int (k : Int) = V.int (((h + 1 : Nat) : Int) - 1) from this)
      congr 1
      omega
end CF

namespace CF
open PySem L2 PyProof.Rows
/-! ### starts: the mirror -/
def worstF (n : Nat) (L : Rk) (g : List Nat) : Option Nat := (List.range n).foldl (behStep L g) (some 0)
def stStep (W : List Nat → Option Nat) (acc : Option (List Nat × Nat)) (g : List Nat) : Option (List Nat × Nat) := match W g with
  | none => acc
  | some t => match acc with
    | none => some (g, t)
    | some (b, m) => if t < m then some (g, t) else some (b, m)
def bestF (n : Nat) (ds : List (Int × Int)) (c : Nat) : Option (List Nat × Nat) := (cssF n c).foldl (stStep (worstF n (ranksF n ds c))) none
def spWorst (P : Program) (w : World) (C : Addr) : Sp := fun vs H Q _ => ∃ (F : Hp) (v : V) (n : Nat) (ds : List (Int × Int)) (rd : Addr) (L : Rk) (b : Nat) (tq : Addr) (g : List Nat), vs = [v, .ref rd, .ref tq] ∧ Same F H ∧ FlrAt C F v n ds ∧ 1 ≤ n ∧ n ≤ 6 ∧ RkH P w H rd L b ∧ F tq = some (.tup (g.map nv)) ∧
  ∀ F' H', Grow F H F' H' → Q (opN (worstF n L g)) H'
/-- the best start, where its list may change -/
def spStarts (C CM : Addr) : Sp := fun vs H Q E => ∃ (F : Hp) (v : V) (n : Nat) (ds : List (Int × Int)) (c : Int), vs = [v, .int c] ∧ Same F H ∧ FlrAt C F v n ds ∧ 1 ≤ n ∧ n ≤ 6 ∧
  (∀ k : Nat, c = (k : Int) → (k = 1 ∨ k = 2) → (∀ F' H', Grow F H F' H' → bestF n ds k = none → Q .non H') ∧ (∀ F' H' tb lb g t, Grow F H F' H' → bestF n ds k = some (g, t) → F' tb = some (.tup [.ref lb, nv t]) → F' lb = none → H' lb = some (.lst (g.map nv)) → H lb = none → g.length = k → Q (.ref tb) H')) ∧
  (c ≠ 1 → c ≠ 2 → ∀ H', Grow F H F H' → E (.ref CM) none H')
theorem stStep_mem {W : List Nat → Option Nat} : ∀ (l : List (List Nat)) (acc : Option (List Nat × Nat)) (g : List Nat) (t : Nat), l.foldl (stStep W) acc = some (g, t) → acc = some (g, t) ∨ (g ∈ l ∧ W g = some t)
  | [], acc, g, t, h => .inl h
  | x :: l, acc, g, t, h => by
    rw [List.foldl_cons] at h
    rcases stStep_mem l _ g t h with e | ⟨e1, e2⟩
    · unfold stStep at e
      cases hw : W x with
      | none =>
        rw [hw] at e
        exact .inl e
      | some m =>
        rw [hw] at e
        cases acc with
        | none =>
          have e : some (x, m) = some (g, t) := e
          cases e
          exact .inr ⟨List.mem_cons_self, hw⟩
        | some bm =>
          obtain ⟨b, k⟩ := bm
          have e : (if m < k then some (x, m) else some (b, k)) = some (g, t) := e
          split at e
          · cases e
            exact .inr ⟨List.mem_cons_self, hw⟩
          · exact .inl e
    · exact .inr ⟨List.mem_cons_of_mem _ e1, e2⟩
theorem stStep_some {W : List Nat → Option Nat} : ∀ (l : List (List Nat)) (acc : Option (List Nat × Nat)), (acc.isSome = true ∨ ∃ g ∈ l, (W g).isSome = true) → (l.foldl (stStep W) acc).isSome = true
  | [], acc, h => by
    rcases h with h | ⟨g, hg, _⟩
    · exact h
    · cases hg
  | x :: l, acc, h => by
    rw [List.foldl_cons]
    refine stStep_some l _ ?_
    unfold stStep
    cases hw : W x with
    | none =>
      rcases h with h | ⟨g, hg, e⟩
      · exact .inl h
      · rcases List.mem_cons.mp hg with rfl | hg
        · rw [hw] at e
          cases e
        · exact .inr ⟨g, hg, e⟩
    | some m =>
      left
      cases acc with
      | none => rfl
      | some bm =>
        obtain ⟨b, k⟩ := bm
        show (if m < k then some (x, m) else some (b, k)).isSome = true
        split <;> rfl
theorem worst_some {n : Nat} {L : Rk} {g : List Nat} (h : ∀ p, p < n → (L g p).isSome = true) : (worstF n L g).isSome = true := by
  obtain ⟨M, e, _⟩ := behAll L g (List.range n) 0 fun p hp => h p (List.mem_range.mp hp)
  unfold worstF
  rw [e]
  rfl
/-- two chasers always begin somewhere, on up to five places -/
theorem best_two {n : Nat} {ds : List (Int × Int)} (h : FloOk n ds) (h5 : n ≤ 5) : bestF n ds 2 ≠ none := fun e => by
  have h1 := h.n1
  have := stStep_some (W := worstF n (ranksF n ds 2)) (cssF n 2) none (.inr ⟨[0, 0], css_two h1 h1, worst_some fun p hp => by
    obtain ⟨k, hk⟩ := rk_two h h5 (css_two h1 h1) hp
    rw [hk]
    rfl⟩)
  unfold bestF at e
  rw [e] at this
  cases this
end CF

namespace CF
open PySem L2 PyProof.Rows
/-- the best start: a tuple of its list and its turns -/
def BestR (F H : Hp) (o3 : V) : Option (List Nat × Nat) → Prop
  | none => o3 = .non
  | some (g, t) => ∃ tb lb, o3 = .ref tb ∧ F tb = some (.tup [.ref lb, nv t]) ∧ F lb = some (.lst (g.map nv)) ∧ H lb = none
theorem BestR.ext {F F' H : Hp} {o3 : V} {acc : Option (List Nat × Nat)} (e : Same F F') (h : BestR F H o3 acc) : BestR F' H o3 acc := by
  cases acc with
  | none => exact h
  | some gt =>
    obtain ⟨g, t⟩ := gt
    obtain ⟨tb, lb, h0, h1, h2, h3⟩ := h
    exact ⟨tb, lb, h0, e _ _ h1, e _ _ h2, h3⟩
def spLDue (P : Program) (w : World) : Sp := fun vs H Q _ => ∃ (F : Hp) (n : Nat) (rd : Addr) (L : Rk) (b c : Nat), vs = [nv n, .ref rd, nv c] ∧ Same F H ∧ 1 ≤ n ∧ n ≤ 6 ∧ (c = 1 ∨ c = 2) ∧ RkH P w H rd L b ∧
  ∀ F' H' u, Grow F H F' H' → BestR F' H u ((cssF n c).foldl (stStep (worstF n L)) none) → Q u H'
theorem notInV_opN (ks : List (Option Nat)) : (if true = true then !inV .non (ks.map opN) else inV .non (ks.map opN)) = !decide (none ∈ ks) := by
  rw [if_pos rfl]
  have := inV_opN ks
  rw [if_neg (by decide)] at this
  rw [this]
/-- the greatest of the ranks -/
theorem rmax_of {K : PySem.W.Frag} {H : Hp} {D : Addr} {nr : List Nat} {L : Rk} {g : List Nat} {M : Nat} {Q : VK} (hs : SqL K H D ((nr.map fun p => L g p).map opN)) (hno : none ∉ nr.map fun p => L g p) (hne : 0 < nr.length) (hM : nr.foldl (behStep L g) (some 0) = some M) (q : Q (nv M) H) : rMax K [.ref D] H Q := by
  obtain ⟨ns, hns⟩ := all_some hno
  have hl : ns.length = nr.length := by
    have := congrArg List.length hns
    rw [List.length_map, List.length_map] at this
    exact this.symm
  obtain ⟨M', m1, m2, m3, m4⟩ := behAll L g nr 0 fun p hp' => by
    cases e : L g p with
    | some k => rfl
    | none => exact absurd (List.mem_map.mpr ⟨p, hp', e⟩) hno
  rw [hM] at m1
  cases m1
  refine ⟨D, asI ns, rfl, by rw [hns] at hs; rw [asI_nv]; simpa [List.map_map, Function.comp_def, opN] using hs, by rw [asI_len]; omega, fun m hm hle => ?_⟩
  have memM : ∀ z : Nat, ((z : Nat) : Int) ∈ asI ns ↔ some z ∈ nr.map fun p => L g p := fun z => by
    rw [mem_asI, hns]
    simp
  have hMm : ((M : Nat) : Int) ∈ asI ns := by
    rw [memM]
    rcases m3 with e | ⟨p, hp', e⟩
    · obtain ⟨p, hp'⟩ := List.exists_mem_of_length_pos hne
      cases e2 : L g p with
      | none => exact absurd (List.mem_map.mpr ⟨p, hp', e2⟩) hno
      | some z =>
        have := m4 p hp' z e2
        exact List.mem_map.mpr ⟨p, hp', by rw [e2]; congr 1; omega⟩
    · exact List.mem_map.mpr ⟨p, hp', e⟩
  have hm2 : ∃ z : Nat, m = (z : Int) ∧ z ≤ M := by
    unfold asI at hm
    obtain ⟨z, hz, rfl⟩ := List.mem_map.mp hm
    refine ⟨z, rfl, ?_⟩
    obtain ⟨p, hp', e⟩ := List.mem_map.mp ((memM z).mp (mem_asI.mpr hz))
    exact m4 p hp' z e
  obtain ⟨z, rfl, hz⟩ := hm2
  have := hle _ hMm
  have ez : z = M := by omega
  rw [ez]
  exact q
theorem paired_rep {α β : Type} {R : α → β → Prop} {x : α} {y : β} (h : R x y) : ∀ n, Paired R (List.replicate n x) (List.replicate n y)
  | 0 => .nil
  | n + 1 => .cons h (paired_rep h n)
theorem rep_flat {α : Type} (x : α) : ∀ n, (List.replicate n [x]).flatten = List.replicate n x
  | 0 => rfl
  | n + 1 => by
    rw [List.replicate_succ, List.flatten_cons, rep_flat x n]
    rfl
theorem rmax_data {K : PySem.W.Frag} {H : Hp} {D : Addr} {nr : List Nat} {L : Rk} {g : List Nat} {M : Nat} (hs : SqL K H D ((nr.map fun p => L g p).map opN)) (hno : none ∉ nr.map fun p => L g p) (hne : 0 < nr.length) (hM : nr.foldl (behStep L g) (some 0) = some M) :
    ∃ ns : List Int, SqL K H D (ns.map V.int) ∧ 0 < ns.length ∧ ∀ m, m ∈ ns → (∀ y, y ∈ ns → y ≤ m) → m = (M : Int) := by
  obtain ⟨a, ns, e, h1, h2, h3⟩ := rmax_of (K := K) (Q := fun v _ => v = nv M) hs hno hne hM rfl
  injection e with e _
  injection e with e
  subst e
  exact ⟨ns, h1, h2, fun m hm hle => V.int.inj (h3 m hm hle)⟩
end CF

namespace CF
open PySem L2 PyProof.Rows
/-! ### a loop over a list within an except suite that is left before the list's end -/
def ItlE (K : PySem.W.Frag) (a : Addr) : It := { Itl K a with stop := fun _ _ => False }
theorem turn_listE {P : Program} {w : World} {K : PySem.W.Frag} {tg : Expr} (a it : Addr) : L2H.TurnH P w K tg (ItlE K a) [it] it (fun i h => h.IsListIter it a i) where
  mem := List.mem_singleton.mpr rfl
  obj := fun i h ⟨o, e, _, d⟩ b hb => by
    obtain rfl := List.mem_singleton.mp hb
    exact ⟨o, e, fun v z => nomatch (d.symm.trans z)⟩
  keep := fun i h h' st k => st.at (k it (List.mem_singleton.mpr rfl))
  item := by
    rintro X rfl rfl rfl _ i pins s σ H E I hf st ⟨xs, x, hq, hx⟩
    obtain ⟨f0, f1, f2, f3, f4, f5⟩ := hf it (List.mem_singleton.mpr rfl)
    obtain ⟨its, rv, p, _⟩ := I.list hq
    obtain ⟨u, hu, ru⟩ := rv.get hx
    refine wpAny_pyNext_list_item st p.isList (x := u) (by simpa using hu) fun h' ⟨o, e, c, d⟩ sb => ⟨u, rfl, ?_⟩
    exact go_of (s := { s with heap := h' }) e c d (by decide) ⟨x, H, I.turned (t' := s.toks) (fun b o hb e => (sb.2 b hb).trans e) f0 f1 f3 f4 f5, ru, ⟨rfl, fun ys hy => (I.list_inj hy hq).symm ▸ hx⟩, ⟨o, e, c, d⟩, fun b hb => (hf b hb).1⟩
  done := fun _ _ _ _ _ _ _ _ _ _ _ _ _ _ z => z.elim
  self := fun _ _ _ _ _ st h => wpAny_pyIter_listiter st h
def iListE (K : PySem.W.Frag) (tl : TE) : TI := fun σ H R => tl σ H fun x H1 => ∃ a, x = .ref a ∧ (∃ xs, SqL K H1 a xs) ∧ R (ItlE K a) H1
theorem pi_listE {X : Cx} {tg l : Expr} {tl : TE} (hl : PE X l tl) : L2H.PIH X tg l (iListE X.K tl) := by
  refine ⟨fun pins s σ H R I h => thn (hl.run pins s σ H _ I h) fun v z ⟨x, H1, I1, r1, a, e, ⟨xs, hq⟩, q⟩ => ?_⟩
  subst e
  cases r1
  obtain ⟨its, rv, p, _⟩ := I1.list hq
  refine wpAny_pyIter_list p.isList ⟨z.heap.objs.size, [z.heap.objs.size], _, _, H1, rfl, I1.kept (t' := z.toks) fun b o e => Heap.get?_push_of_some _ e, turn_listE a _, ⟨_, Heap.get?_push_size _ rfl, rfl, rfl⟩, fun b hb => ?_, q⟩
  obtain rfl := List.mem_singleton.mp hb
  exact I1.fpOk (Nat.le_refl _) (I1.hok.fresh (Nat.le_refl _))
/-- its reading: in the turns ahead of k nothing happens, at k the suite is left -/
theorem for_listE {K : PySem.W.Frag} {g : TG} {tb : TS} {D : Ends} {σ : L2.St} {H : Hp} {a : Addr} {xs : List V} (k : Nat) (hk : k < xs.length) (Pv : Nat → L2.St → Hp → Prop) (h0 : Pv 0 σ H) (hq : ∀ i σ H, Pv i σ H → SqL K H a xs)
    (hs : ∀ i x σ H, i < k → xs[i]? = some x → Pv i σ H → g x σ H fun σ2 H2 => tb { D with nx := Pv (i + 1), ct := Pv (i + 1), bk := D.nx } σ2 H2)
    (hl : ∀ x σ H, xs[k]? = some x → Pv k σ H → g x σ H fun σ2 H2 => tb { D with nx := fun _ _ => False, ct := fun _ _ => False, bk := D.nx } σ2 H2) :
    ∃ W : Nat → Nat → L2.St → Hp → Prop, (∃ m, W 0 m σ H) ∧ ∀ i m σ H, W i m σ H → ((ItlE K a).stop i H ∧ D.nx σ H) ∨ ((ItlE K a).go i H ∧ ∃ N : L2.St → Hp → Prop, (∀ σ' H', N σ' H' → ∃ m', m' < m ∧ W (i + 1) m' σ' H') ∧ ∀ x H', (ItlE K a).yld i H x H' → g x σ H' fun σ2 H2 => tb { D with nx := N, ct := N, bk := D.nx } σ2 H2) := by
  refine ⟨fun i m σ H => m = k - i ∧ i ≤ k ∧ Pv i σ H, ⟨k, rfl, Nat.zero_le _, h0⟩, ?_⟩
  rintro i m σ H ⟨rfl, hi, p⟩
  have hsq := hq i σ H p
  have hlt : i < xs.length := by omega
  refine .inr ⟨⟨xs, xs[i], hsq, List.getElem?_eq_getElem hlt⟩, ?_⟩
  by_cases c : i = k
  · subst c
    refine ⟨fun _ _ => False, fun _ _ z => z.elim, fun x H' ⟨e, hx⟩ => ?_⟩
    subst e
    exact hl x σ H' (hx xs hsq) p
  · refine ⟨Pv (i + 1), fun σ' H' p' => ⟨k - (i + 1), by omega, rfl, by omega, p'⟩, fun x H' ⟨e, hx⟩ => ?_⟩
    subst e
    exact hs i x σ H' (by omega) (hx xs hsq) p
end CF

namespace CF
open PySem L2 PyProof.Rows
/-! ### flight goes where the rank is greatest -/
theorem flF_max {L : Nat → Option Nat} : ∀ (l : List Nat) (acc : Option (Nat × Nat)), (∀ p ∈ l, (L p).isSome = true) → (acc.isSome = true ∨ l ≠ []) → (∀ b q, acc = some (b, q) → L q = some b) →
    ∃ M, L (flF L l acc) = some M ∧ (∀ p ∈ l, ∀ k, L p = some k → k ≤ M) ∧ (∀ b q, acc = some (b, q) → b ≤ M) ∧ (flF L l acc ∈ l ∨ ∃ b, acc = some (b, flF L l acc))
  | [], none, _, h, _ => by
    rcases h with h | h
    · cases h
    · exact absurd rfl h
  | [], some (b, q), _, _, ha => ⟨b, ha b q rfl, (fun p hp => nomatch hp), (fun b' q' e => by cases e; exact Nat.le_refl _), .inr ⟨b, rfl⟩⟩
  | p :: l, acc, hall, _, ha => by
    obtain ⟨h, hh⟩ := Option.isSome_iff_exists.mp (hall p List.mem_cons_self)
    have hl : ∀ q ∈ l, (L q).isSome = true := fun q hq => hall q (List.mem_cons_of_mem _ hq)
    have step : ∃ b q, flF L (p :: l) acc = flF L l (some (b, q)) ∧ L q = some b ∧ h ≤ b ∧ (∀ b' q', acc = some (b', q') → b' ≤ b) ∧ (q = p ∨ acc = some (b, q)) := by
      cases acc with
      | none =>
        refine ⟨h, p, ?_, hh, Nat.le_refl _, (fun _ _ e => nomatch e), .inl rfl⟩
        show (match L p with | none => p | some h => _) = _
        rw [hh]
      | some bq =>
        obtain ⟨b, q⟩ := bq
        have e : flF L (p :: l) (some (b, q)) = if h > b then flF L l (some (h, p)) else flF L l (some (b, q)) := by
          show (match L p with | none => p | some h => _) = _
          rw [hh]
        by_cases c : h > b
        · exact ⟨h, p, by rw [e, if_pos c], hh, Nat.le_refl _, (fun b' q' e' => by cases e'; omega), .inl rfl⟩
        · exact ⟨b, q, by rw [e, if_neg c], ha b q rfl, by omega, (fun b' q' e' => by cases e'; exact Nat.le_refl _), .inr rfl⟩
    obtain ⟨b, q, e, hq, hb, hacc, hor⟩ := step
    obtain ⟨M, m1, m2, m3, m4⟩ := flF_max l (some (b, q)) hl (.inl rfl) fun b' q' e' => by cases e'; exact hq
    have hbM := m3 b q rfl
    rw [e]
    refine ⟨M, m1, fun z hz k hk => ?_, fun b' q' e' => Nat.le_trans (hacc b' q' e') hbM, ?_⟩
    · rcases List.mem_cons.mp hz with rfl | hz
      · rw [hh] at hk
        cases hk
        omega
      · exact m2 z hz k hk
    · rcases m4 with h1 | ⟨b', e'⟩
      · exact .inl (List.mem_cons_of_mem _ h1)
      · have e3 : q = flF L l (some (b, q)) := by
          have := Option.some.inj e'
          exact congrArg Prod.snd this
        rcases hor with h1 | h1
        · left
          rw [← e3, h1]
          exact List.mem_cons_self
        · right
          exact ⟨b, by rw [h1]; exact congrArg some (Prod.ext rfl e3)⟩
/-- what is behind the plan's step -/
theorem beh_le {n : Nat} {ds : List (Int × Int)} {c : Nat} {g : List Nat} {r h : Nat} (hb : behF (nearF n ds r) (ranksF n ds c) g r = some h) (hr : r ∉ g) : (∀ p ∈ nearF n ds r, ∃ k, ranksF n ds c g p = some k ∧ k ≤ h) ∧ (h = 0 ∨ ∃ p ∈ nearF n ds r, ranksF n ds c g p = some h) := by
  unfold behF at hb
  rw [if_neg hr] at hb
  have hall : ∀ p ∈ nearF n ds r, (ranksF n ds c g p).isSome = true := fun p hp => by
    cases e : ranksF n ds c g p with
    | some k => rfl
    | none =>
      rw [behSome (ranksF n ds c) g (nearF n ds r) 0 ⟨p, hp, e⟩] at hb
      cases hb
  obtain ⟨M, m1, m2, m3, m4⟩ := behAll (ranksF n ds c) g (nearF n ds r) 0 hall
  rw [m1] at hb
  cases hb
  refine ⟨fun p hp => ?_, m3⟩
  obtain ⟨k, hk⟩ := Option.isSome_iff_exists.mp (hall p hp)
  exact ⟨k, hk, m4 p hp k hk⟩
/-- each chaser goes to a place near -/
theorem gl_near {n : Nat} {ds : List (Int × Int)} {c : Nat} {cs g : List Nat} (hc : c = 1 ∨ c = 2) (hcs : cs ∈ cssF n c) (hg : g ∈ glF (arF n ds) cs) : g ∈ cssF n c ∧ g.length = cs.length ∧ ∀ (i p q : Nat), cs[i]? = some p → g[i]? = some q → q ∈ nearF n ds p := by
  obtain ⟨hl, hm⟩ := cssF_mem.mp hcs
  rcases hc with rfl | rfl
  · match cs, hl with
    | [x], _ =>
      have hx := hm x (by simp)
      obtain ⟨p, hp, rfl⟩ := glF_one.mp hg
      rw [arF_get hx] at hp
      refine ⟨css_one (nearF_mem.mp hp).1, rfl, fun i p' q' h1 h2 => ?_⟩
      cases i with
      | zero =>
        simp at h1 h2
        subst h1 h2
        exact hp
      | succ i => simp at h1
  · match cs, hl with
    | [x, y], _ =>
      have hx := hm x (by simp)
      have hy := hm y (by simp)
      obtain ⟨p, hp, q, hq, rfl⟩ := glF_two.mp hg
      rw [arF_get hx] at hp
      rw [arF_get hy] at hq
      refine ⟨css_two (nearF_mem.mp hp).1 (nearF_mem.mp hq).1, rfl, fun i p' q' h1 h2 => ?_⟩
      match i with
      | 0 =>
        simp at h1 h2
        subst h1 h2
        exact hp
      | 1 =>
        simp at h1 h2
        subst h1 h2
        exact hq
      | i + 2 => simp at h1
end CF

namespace CF
open PySem L2 PyProof.Rows
/-! ### folds, one behind the other: what is left, and where each place has gone -/
inductive Run (n : Nat) (ds : List (Int × Int)) : List Nat → (Nat → Nat) → Prop
  | nil : Run n ds (List.range n) id
  | fold {S : List Nat} {g : Nat → Nat} {p q : Nat} : Run n ds S g → p ∈ S → q ∈ S → covB n ds S p q = true → Run n ds (S.erase p) (fun x => if g x = p then q else g x)
/-- none can be folded -/
def Stiff (n : Nat) (ds : List (Int × Int)) (A : List Nat) : Prop := ∀ p ∈ A, ∀ q ∈ A, covB n ds A p q = false
section
variable {n : Nat} {ds : List (Int × Int)}
theorem cov_iff {S : List Nat} {p q : Nat} : covB n ds S p q = true ↔ q ≠ p ∧ ∀ o ∈ S, o < n → joinsB ds (p : Int) (o : Int) = true → joinsB ds (o : Int) (q : Int) = true := by
  unfold covB
  rw [Bool.and_eq_true, decide_eq_true_eq, List.all_eq_true]
  refine and_congr_right fun _ => ⟨fun h o ho hn hj => h o (List.mem_filter.mpr ⟨nearF_mem.mpr ⟨hn, hj⟩, decide_eq_true ho⟩), fun h o ho => ?_⟩
  obtain ⟨h1, h2⟩ := List.mem_filter.mp ho
  obtain ⟨h3, h4⟩ := nearF_mem.mp h1
  exact h o (of_decide_eq_true h2) h3 h4
structure RunOk (n : Nat) (ds : List (Int × Int)) (S : List Nat) (g : Nat → Nat) : Prop where
  nd : S.Nodup
  lt : ∀ x ∈ S, x < n
  into : ∀ x, x < n → g x ∈ S
  fix : ∀ x ∈ S, g x = x
  hom : ∀ x y, x < n → y < n → joinsB ds (x : Int) (y : Int) = true → joinsB ds (g x : Int) (g y : Int) = true
theorem Run.ok {S : List Nat} {g : Nat → Nat} (h : Run n ds S g) : RunOk n ds S g := by
  induction h with
  | nil => exact ⟨List.nodup_range, fun x hx => List.mem_range.mp hx, fun x hx => List.mem_range.mpr hx, fun _ _ => rfl, fun _ _ _ _ h => h⟩
  | @fold S g p q _ hp hq hc ih =>
    obtain ⟨hqp, hcov⟩ := cov_iff.mp hc
    refine ⟨ih.nd.erase _, fun x hx => ih.lt x (List.mem_of_mem_erase hx), fun x hx => ?_, fun x hx => ?_, fun x y hx hy hj => ?_⟩
    · show (if g x = p then q else g x) ∈ S.erase p
      split
      · exact (List.mem_erase_of_ne hqp).mpr hq
      · rename_i c
        exact (List.mem_erase_of_ne c).mpr (ih.into x hx)
    · show (if g x = p then q else g x) = x
      have hx' := List.mem_of_mem_erase hx
      rw [ih.fix x hx', if_neg]
      intro e
      subst e
      exact absurd hx ih.nd.not_mem_erase
    · show joinsB ds ((if g x = p then q else g x : Nat) : Int) ((if g y = p then q else g y : Nat) : Int) = true
      have hg := ih.hom x y hx hy hj
      by_cases c1 : g x = p
      · by_cases c2 : g y = p
        · rw [if_pos c1, if_pos c2]
          exact joins_refl _ _
        · rw [if_pos c1, if_neg c2, joinsB_comm]
          rw [c1] at hg
          exact hcov _ (ih.into y hy) (ih.lt _ (ih.into y hy)) hg
      · by_cases c2 : g y = p
        · rw [if_neg c1, if_pos c2]
          rw [c2, joinsB_comm] at hg
          exact hcov _ (ih.into x hx) (ih.lt _ (ih.into x hx)) hg
        · rw [if_neg c1, if_neg c2]
          exact hg
/-- what can't be folded stands still whichever way the others are folded -/
theorem run_id {A B : List Nat} {f g : Nat → Nat} (hA : Run n ds A f) (st : Stiff n ds A) (hB : Run n ds B g) : ∀ x ∈ A, f (g x) = x := by
  have oa := hA.ok
  induction hB with
  | nil => exact fun x hx => oa.fix x hx
  | @fold S g p q hr hp hq hc ih =>
    have ok := hr.ok
    obtain ⟨hqp, hcov⟩ := cov_iff.mp hc
    intro x hx
    show f (if g x = p then q else g x) = x
    by_cases c : g x = p
    · rw [if_pos c]
      refine Classical.byContradiction fun hne => ?_
      have hqn := ok.lt q hq
      have hz := oa.into q hqn
      have := st x hx (f q) hz
      rw [Bool.eq_false_iff] at this
      refine this (cov_iff.mpr ⟨hne, fun o ho hon hj => ?_⟩)
      have h1 := ok.hom x o (oa.lt x hx) hon hj
      rw [c] at h1
      have h2 := hcov _ (ok.into o hon) (ok.lt _ (ok.into o hon)) h1
      have h3 := oa.hom _ _ (ok.lt _ (ok.into o hon)) hqn h2
      rw [ih o ho] at h3
      exact h3
    · rw [if_neg c]
      exact ih x hx
theorem len_sub : ∀ {l B : List Nat}, l.Nodup → (∀ x ∈ l, x ∈ B) → l.length ≤ B.length
  | [], _, _, _ => Nat.zero_le _
  | a :: l, B, h, hs => by
    obtain ⟨h1, h2⟩ := List.nodup_cons.mp h
    have ha := hs a List.mem_cons_self
    have := len_sub (l := l) (B := B.erase a) h2 fun x hx => (List.mem_erase_of_ne (fun e : x = a => h1 (by rw [← e]; exact hx))).mpr (hs x (List.mem_cons_of_mem _ hx))
    rw [List.length_erase_of_mem ha] at this
    have := List.length_pos_of_mem ha
    rw [List.length_cons]
    omega
theorem nodup_map {α β : Type} {f : α → β} : ∀ {l : List α}, (∀ x ∈ l, ∀ y ∈ l, f x = f y → x = y) → l.Nodup → (l.map f).Nodup
  | [], _, _ => List.nodup_nil
  | a :: l, hi, h => by
    obtain ⟨h1, h2⟩ := List.nodup_cons.mp h
    rw [List.map_cons, List.nodup_cons]
    refine ⟨fun hm => ?_, nodup_map (fun x hx y hy => hi x (List.mem_cons_of_mem _ hx) y (List.mem_cons_of_mem _ hy)) h2⟩
    obtain ⟨y, hy, e⟩ := List.mem_map.mp hm
    have := hi y (List.mem_cons_of_mem _ hy) a List.mem_cons_self e
    exact h1 (this ▸ hy)
theorem run_le {A B : List Nat} {f g : Nat → Nat} (hA : Run n ds A f) (st : Stiff n ds A) (hB : Run n ds B g) : A.length ≤ B.length := by
  have hid := run_id hA st hB
  have := len_sub (l := A.map g) (B := B) (nodup_map (fun x hx y hy e => by rw [← hid x hx, ← hid y hy, e]) hA.ok.nd) fun x hx => by
    obtain ⟨y, hy, rfl⟩ := List.mem_map.mp hx
    exact hB.ok.into y (hA.ok.lt y hy)
  rw [List.length_map] at this
  exact this
/-- as many places are left, whichever are folded -/
theorem run_len {A B : List Nat} {f g : Nat → Nat} (hA : Run n ds A f) (sA : Stiff n ds A) (hB : Run n ds B g) (sB : Stiff n ds B) : A.length = B.length :=
  Nat.le_antisymm (run_le hA sA hB) (run_le hB sB hA)
/-- two left: from each place of the chaser there is one of the runner's from which the chase never ends -/
theorem run_free {A : List Nat} {f : Nat → Nat} (hA : Run n ds A f) (sA : Stiff n ds A) (h2 : 2 ≤ A.length) {c : Nat} (hc : c < n) : ∃ r, r < n ∧ ranksF n ds 1 [c] r = none := by
  have ok := hA.ok
  have stiff : ∀ r ∈ A, ∀ s ∈ A, s ≠ r → ∃ o ∈ A, o < n ∧ joinsB ds (r : Int) (o : Int) = true ∧ joinsB ds (s : Int) (o : Int) = false := fun r hr s hs hne => by
    refine Classical.byContradiction fun hno => ?_
    have := sA r hr s hs
    rw [Bool.eq_false_iff] at this
    refine this (cov_iff.mpr ⟨hne, fun o ho hon hj => ?_⟩)
    cases e : joinsB ds (o : Int) (s : Int) with
    | true => rfl
    | false =>
      rw [joinsB_comm] at e
      exact absurd ⟨o, ho, hon, hj, e⟩ hno
  have key : ∀ t c r, c < n → r ∈ A → joinsB ds (f c : Int) (r : Int) = false → lapN n ds 1 t [c] r = none := by
    intro t
    induction t with
    | zero =>
      intro c r hc hr hj
      cases e : lapN n ds 1 0 [c] r with
      | none => rfl
      | some k =>
        have h := (lap_zero (n := n) (ds := ds) (c := 1) (cs := [c]) (r := r)).mp (by rw [e]; rfl)
        have e2 : r = c := by simpa using h.2
        subst e2
        rw [ok.fix r hr, joins_refl] at hj
        cases hj
    | succ t ih =>
      intro c r hc hr hj
      cases e : lapN n ds 1 (t + 1) [c] r with
      | none => rfl
      | some k =>
        exfalso
        rcases lap_iff.mp (show (lapN n ds 1 (t + 1) [c] r).isSome = true by rw [e]; rfl) with h | ⟨_, hrn, g, hg, hb⟩
        · rw [ih c r hc hr hj] at h
          cases h
        · obtain ⟨c', hc', rfl⟩ := glF_one.mp hg
          rw [arF_get hc] at hc'
          obtain ⟨hcn, hcj⟩ := nearF_mem.mp hc'
          have hff := ok.hom c c' hc hcn hcj
          have hne : f c' ≠ r := fun e => by rw [e, hj] at hff; cases hff
          rcases behF_iff.mp hb with h | h
          · have e2 : r = c' := by simpa using h
            exact hne (by rw [← e2]; exact ok.fix r hr)
          · obtain ⟨o, ho, hon, hjo, hjs⟩ := stiff r hr (f c') (ok.into c' hcn) hne
            have := h o (nearF_mem.mpr ⟨hon, hjo⟩)
            rw [ih c' o hcn ho hjs] at this
            cases this
  have : ∃ r ∈ A, joinsB ds (f c : Int) (r : Int) = false := by
    obtain ⟨r0, hr0, hne⟩ : ∃ r0 ∈ A, r0 ≠ f c := by
      refine Classical.byContradiction fun hno => ?_
      have hall : ∀ x ∈ A, x ∈ [f c] := fun x hx => by
        rw [List.mem_singleton]
        exact Classical.byContradiction fun h => hno ⟨x, hx, h⟩
      have := len_sub ok.nd hall
      simp at this
      omega
    obtain ⟨o, ho, hon, _, hjs⟩ := stiff r0 hr0 (f c) (ok.into c hc) (fun e => hne e.symm)
    exact ⟨o, ho, hjs⟩
  obtain ⟨r, hr, hj⟩ := this
  exact ⟨r, ok.lt r hr, key _ c r hc hr hj⟩
/-- whoever stands where the runner has gone by the folds, catches -/
theorem run_lap {S : List Nat} {g : Nat → Nat} (h : Run n ds S g) : ∃ m, ∀ c r, c < n → r < n → joinsB ds (c : Int) (g r : Int) = true → (lapN n ds 1 m [c] r).isSome = true := by
  have ok := h.ok
  induction h with
  | nil =>
    refine ⟨1, fun c r hc hr hj => lap_iff.mpr (.inr ⟨css_one hc, hr, [r], glF_one.mpr ⟨r, ?_, rfl⟩, behF_iff.mpr (.inl (by simp))⟩)⟩
    rw [arF_get hc]
    exact nearF_mem.mpr ⟨hr, hj⟩
  | @fold S g p q hr hp hq hc ih =>
    obtain ⟨m, ih⟩ := ih hr.ok
    have ok0 := hr.ok
    obtain ⟨hqp, hcov⟩ := cov_iff.mp hc
    refine ⟨m + 1, fun c r hc hr hj => ?_⟩
    have hgn : (if g r = p then q else g r) < n := ok.lt _ (ok.into r hr)
    refine lap_iff.mpr (.inr ⟨css_one hc, hr, [if g r = p then q else g r], glF_one.mpr ⟨_, ?_, rfl⟩, behF_iff.mpr (.inr fun w hw => ?_)⟩)
    · rw [arF_get hc]
      exact nearF_mem.mpr ⟨hgn, hj⟩
    · obtain ⟨hwn, hwj⟩ := nearF_mem.mp hw
      refine ih _ w hgn hwn ?_
      have h1 := ok0.hom r w hr hwn hwj
      by_cases c1 : g r = p
      · rw [if_pos c1, joinsB_comm]
        rw [c1] at h1
        exact hcov _ (ok0.into w hwn) (ok0.lt _ (ok0.into w hwn)) h1
      · rw [if_neg c1]
        exact h1
/-- one left: from there each is caught -/
theorem run_one {S : List Nat} {g : Nat → Nat} (h : Run n ds S g) {a : Nat} (e : S = [a]) {r : Nat} (hr : r < n) : ranksF n ds 1 [a] r ≠ none := by
  obtain ⟨m, hm⟩ := run_lap h
  have ok := h.ok
  have hga : g r = a := by
    have := ok.into r hr
    rw [e, List.mem_singleton] at this
    exact this
  have han := ok.lt a (by rw [e]; simp)
  have h1 := hm a r han hr (by rw [hga]; exact joins_refl _ _)
  intro e2
  rw [rk_none.mp e2 m] at h1
  cases h1
/-! ### the program's folds are such -/
theorem foldP_none {rest : List Nat} (h : foldP n ds rest = none) : Stiff n ds rest := fun p hp q hq => by
  unfold foldP at h
  rw [List.findSome?_eq_none_iff] at h
  have h1 := h p hp
  rw [Option.map_eq_none_iff, List.find?_eq_none] at h1
  have := h1 q hq
  simpa using this
theorem foldsN_run : ∀ (k : Nat) {rest : List Nat} {g : Nat → Nat}, Run n ds rest g → rest.length ≤ k → ∃ g', Run n ds (foldsN n ds k rest).2 g' ∧ Stiff n ds (foldsN n ds k rest).2
  | 0, rest, g, h, hl => by
    have : rest = [] := List.length_eq_zero_iff.mp (by omega)
    subst this
    exact ⟨g, h, fun p hp => nomatch hp⟩
  | k + 1, rest, g, h, hl => by
    unfold foldsN
    cases e : foldP n ds rest with
    | none => exact ⟨g, h, foldP_none e⟩
    | some s =>
      obtain ⟨h1, h2, h3⟩ := foldP_mem e
      have := List.length_pos_of_mem h1
      exact foldsN_run k (h.fold h1 h2 h3) (by rw [List.length_erase_of_mem h1]; omega)
theorem foldsF_run : ∃ g, Run n ds (foldsF n ds).2 g ∧ Stiff n ds (foldsF n ds).2 := foldsN_run n .nil (by rw [List.length_range]; exact Nat.le_refl _)
/-! ### the best start -/
theorem worstF_none {L : Rk} {g : List Nat} : worstF n L g = none ↔ ∃ r, r < n ∧ L g r = none := by
  constructor
  · intro h
    refine Classical.byContradiction fun hno => ?_
    obtain ⟨M, m1, _⟩ := behAll L g (List.range n) 0 fun p hp => by
      cases e : L g p with
      | some k => rfl
      | none => exact absurd ⟨p, List.mem_range.mp hp, e⟩ hno
    unfold worstF at h
    rw [m1] at h
    cases h
  · rintro ⟨r, hr, h⟩
    exact behSome L g (List.range n) 0 ⟨r, List.mem_range.mpr hr, h⟩
theorem worstF_some {L : Rk} {g : List Nat} {t : Nat} (h : worstF n L g = some t) {r : Nat} (hr : r < n) : ∃ k, L g r = some k ∧ k ≤ t := by
  have hall : ∀ p ∈ List.range n, (L g p).isSome = true := fun p hp => by
    cases e : L g p with
    | some k => rfl
    | none => rw [worstF_none.mpr ⟨p, List.mem_range.mp hp, e⟩] at h; cases h
  obtain ⟨M, m1, m2, m3, m4⟩ := behAll L g (List.range n) 0 hall
  unfold worstF at h
  rw [m1] at h
  cases h
  obtain ⟨k, hk⟩ := Option.isSome_iff_exists.mp (hall r (List.mem_range.mpr hr))
  exact ⟨k, hk, m4 r (List.mem_range.mpr hr) k hk⟩
/-- one chaser is enough just where one place is left -/
theorem best_one {A : List Nat} {f : Nat → Nat} (hA : Run n ds A f) (sA : Stiff n ds A) (hn : 1 ≤ n) : bestF n ds 1 = none ↔ 1 < A.length := by
  constructor
  · intro h
    refine Classical.byContradiction fun hno => ?_
    have hpos : 0 < A.length := List.length_pos_of_mem (hA.ok.into 0 hn)
    obtain ⟨a, ha⟩ := List.length_eq_one_iff.mp (show A.length = 1 by omega)
    have han := hA.ok.lt a (by rw [ha]; simp)
    have := stStep_some (W := worstF n (ranksF n ds 1)) (cssF n 1) none (.inr ⟨[a], css_one han, ?_⟩)
    · unfold bestF at h
      rw [h] at this
      cases this
    · cases e : worstF n (ranksF n ds 1) [a] with
      | some k => rfl
      | none =>
        obtain ⟨r, hr, e2⟩ := worstF_none.mp e
        exact absurd e2 (run_one hA ha hr)
  · intro h
    cases e : bestF n ds 1 with
    | none => rfl
    | some gt =>
      obtain ⟨g, t⟩ := gt
      rcases stStep_mem _ _ g t e with e2 | ⟨hg, hw⟩
      · cases e2
      · obtain ⟨hl, hm⟩ := cssF_mem.mp hg
        match g, hl with
        | [c], _ =>
          obtain ⟨r, hr, e2⟩ := run_free hA sA h (hm c (by simp))
          rw [worstF_none.mpr ⟨r, hr, e2⟩] at hw
          cases hw
theorem best_rank {c : Nat} {g : List Nat} {t : Nat} (h : bestF n ds c = some (g, t)) : g ∈ cssF n c ∧ ∀ r, r < n → ∃ k, ranksF n ds c g r = some k ∧ k ≤ t := by
  rcases stStep_mem _ _ g t h with e | ⟨hg, hw⟩
  · cases e
  · exact ⟨hg, fun r hr => worstF_some hw hr⟩
end
end CF
namespace CF
open PySem L2 PyProof.Rows
/-! ### the law's own choices -/
def choP (n : Nat) (ds : List (Int × Int)) (rest : List Nat) (p : Nat) (l : List Nat) : List Nat := (l.filter (covB n ds rest p)).map fun _ => p
def choF (n : Nat) (ds : List (Int × Int)) (rest l : List Nat) : List Nat := (l.map fun p => choP n ds rest p rest).flatten
theorem choF_mem {n : Nat} {ds : List (Int × Int)} {rest : List Nat} {p : Nat} : p ∈ choF n ds rest rest ↔ p ∈ rest ∧ ∃ q ∈ rest, covB n ds rest p q = true := by
  unfold choF choP
  rw [List.mem_flatten]
  constructor
  · rintro ⟨l, hl, hp⟩
    obtain ⟨z, hz, rfl⟩ := List.mem_map.mp hl
    obtain ⟨q, hq, rfl⟩ := List.mem_map.mp hp
    obtain ⟨h1, h2⟩ := List.mem_filter.mp hq
    exact ⟨hz, q, h1, h2⟩
  · rintro ⟨hp, q, hq, h⟩
    exact ⟨_, List.mem_map.mpr ⟨p, hp, rfl⟩, List.mem_map.mpr ⟨q, List.mem_filter.mpr ⟨hq, h⟩, rfl⟩⟩
theorem choF_nil {n : Nat} {ds : List (Int × Int)} {rest : List Nat} (h : choF n ds rest rest = []) : Stiff n ds rest := fun p hp q hq => by
  cases e : covB n ds rest p q with
  | false => rfl
  | true =>
    have : p ∈ choF n ds rest rest := choF_mem.mpr ⟨hp, q, hq, e⟩
    rw [h] at this
    cases this
theorem choP_snoc {n : Nat} {ds : List (Int × Int)} {rest : List Nat} {p q : Nat} {l : List Nat} : choP n ds rest p (l ++ [q]) = if covB n ds rest p q = true then choP n ds rest p l ++ [p] else choP n ds rest p l := by
  unfold choP
  rw [List.filter_append]
  split
  · rename_i h
    simp [h]
  · rename_i h
    simp [h]
theorem choF_snoc {n : Nat} {ds : List (Int × Int)} {rest : List Nat} {p : Nat} {l : List Nat} : choF n ds rest (l ++ [p]) = choF n ds rest l ++ choP n ds rest p rest := by
  unfold choF
  simp
theorem choP_len {n : Nat} {ds : List (Int × Int)} {rest : List Nat} {p : Nat} {l : List Nat} : (choP n ds rest p l).length ≤ l.length := by
  unfold choP
  rw [List.length_map]
  exact List.length_filter_le _ _
theorem choF_len {n : Nat} {ds : List (Int × Int)} {rest : List Nat} : ∀ l : List Nat, (choF n ds rest l).length ≤ l.length * rest.length
  | [] => by simp [choF]
  | p :: l => by
    have ih := choF_len (n := n) (ds := ds) (rest := rest) l
    have h1 := choP_len (n := n) (ds := ds) (rest := rest) (p := p) (l := rest)
    have e : choF n ds rest (p :: l) = choP n ds rest p rest ++ choF n ds rest l := by
      unfold choF
      simp
    rw [e, List.length_append, List.length_cons, Nat.succ_mul]
    omega
def spChoices : Sp := fun vs H Q _ => ∃ (F : Hp) (n : Nat) (v : V) (ds : List (Int × Int)) (l : Addr) (rest : List Nat), vs = [nv n, v, .ref l] ∧ Same F H ∧ PairL F v ds ∧ n ≤ 6 ∧ H l = some (.lst (rest.map nv)) ∧ rest.length ≤ 100 ∧ (∀ p ∈ rest, p < n) ∧
  ∀ F' H' u, Grow F H F' H' → NatL F' u (choF n ds rest rest) → Q u H'
end CF

namespace CF
open PySem L2 PyProof.Rows
/-! ### an object made, its exceptions wished W -/
def tMakeS (C : Addr) (sp : Sp) (E : L2.St → XK) (t : TA) : TE := fun σ H Q => t σ H fun vs H1 => ∀ x dx, H1 x = none → H1 dx = none → dx ≠ x → sp (.ref x :: (vs ++ [])) (upd (upd H1 dx (.own x)) x (.ins C dx [])) (fun v H2 => v = .non ∧ Q (.ref x) H2) (E σ)
section
variable {X : Cx} {CX : CXT} {k : Nat} {f C : Addr} {fd : FuncData} {ps : List Str} {sp : Sp} {E : L2.St → XK} {x : Str} {p pos : Pos} {e : Expr} {es : List Expr} {t : TA}
theorem run_makeS {pins : List (Addr × Obj)} {σ : L2.St} {H : Hp} {s : Shared} {Q : VK} {us : List Value} {vs : List V} (m : Mk X.K C f) (F : FnOk X.prog X.w X.K X.mg X.base CX k f fd ps sp) (hr : Room (k + 1) X.A) (hb : Binds X.K fd ps []) (hx : PassesAt CX X σ (E σ)) (I : Inv X pins σ H s) (r : Vals vs us)
    (h : ∀ x dx, H x = none → H dx = none → dx ≠ x → sp (.ref x :: (vs ++ [])) (upd (upd H dx (.own x)) x (.ins C dx [])) (fun v H2 => v = .non ∧ Q (.ref x) H2) (E σ)) : wpAny (model X.prog X.w) X.A (call (.ref C) us) (EP X pins σ Q) X.xe s := by
  obtain ⟨n, hn⟩ : ∃ n, n = s.heap.objs.size := ⟨_, rfl⟩
  have f1 : H (n + 1) = none := hn ▸ I.hok.fresh (Nat.le_succ _)
  have f0 : H n = none := hn ▸ I.hok.fresh (Nat.le_refl _)
  have q0 := h (n + 1) n f1 f0 (Nat.ne_of_lt (Nat.lt_succ_self n))
  subst hn
  have I2 := Inv.made (C := C) I
  have r2 : Vals (V.ref (s.heap.objs.size + 1) :: (vs ++ [])) (Value.ref (s.heap.objs.size + 1) :: (us ++ [])) := .cons rfl (r.append .nil)
  have hl : (Value.ref (s.heap.objs.size + 1) :: us ++ []).length = ps.length := (r2.length.symm.trans (F.len _ _ _ _ q0))
  have b2 : BindsTo _ fd ⟨Value.ref (s.heap.objs.size + 1) :: us, []⟩ (ps.zip (Value.ref (s.heap.objs.size + 1) :: (us ++ []))) := hb _ (Value.ref (s.heap.objs.size + 1) :: us) I2.kIn hl
  have run := F.run _ X.stack _ _ ⟨Value.ref (s.heap.objs.size + 1) :: us, []⟩ (Value.ref (s.heap.objs.size + 1) :: (us ++ [])) _ _ (E σ) (hr.make C us []) (I2.env0.make C us []) b2 r2 q0
  refine wpAny_call (make_map (f := f) I.kIn m.makes m.init (beq_iff_eq.mp m.fn) (codeAny_mono run fun res s' hq => ?_))
  match res, hq with
  | .error e, hq => exact hx pins _ _ e s' I2 hq
  | .ok (.ret u), hq =>
    obtain ⟨v, H', I3, rv, ev, q3⟩ := I2.after hq
    subst ev
    exact ⟨rv, ⟨V.ref (s.heap.objs.size + 1), H', I3, rfl, q3⟩⟩
  | .ok .next, hq => exact False.elim hq
  | .ok .brk, hq => exact False.elim hq
  | .ok .cont, hq => exact False.elim hq
theorem pe_makeS (m : Mk X.K C f) (F : FnOk X.prog X.w X.K X.mg X.base CX k f fd ps sp) (hr : Room (k + 1) X.A) (hg : Gl X x) (hm : X.mg x = some (.ref C)) (hb : Binds X.K fd ps []) (hx : ∀ σ, PassesAt CX X σ (E σ)) (ha : PA X (e :: es) t) (hdb : (x == ("__debug__" : Str)) = false := by decide)
    (he : starEach (e :: es) X.env = (false, eval e X.env) :: starEach es X.env := by rfl) (hpl : (backTo pos (starEach es X.env)).any (·.1) = false := by rfl) : PE X (.Call (.Name x p) (e :: es) [] pos) (tMakeS C sp E t) := by
  refine ⟨fun pins s σ H Q I h => wpAny_Call_Name_kw (ld_glob I hg hm ?_ hdb)⟩
  exact PySem.W.callWith_K (h₀ := X.base) I.ok.mod.kin m.kp (thn (ha.run pos pins s σ H _ I h) fun us s1 ⟨vs, H1, I1, r, q⟩ => ⟨I1.kIn, run_makeS m F hr hb (hx σ) I1 r q⟩) he hpl
end
section
variable {X : Cx} {C CN : Addr} {j : Nat} {p pos : Pos} {e1 e2 : Expr} {ta : TA} {W : WX}
/-- Floor(..), its refusal wished W -/
theorem pe_mkFS (M : MkF X.prog X.w X.K X.mg X.base C CN) (g : X.mg "Floor" = some (.ref C)) (hr : Room j X.A) (hg : Gl X "Floor") (tk : L2N.Takes X W) (ha : PA X (e1 :: [e2]) ta) (hk : 3 ≤ j := by decide)
    (he : starEach (e1 :: [e2]) X.env = (false, eval e1 X.env) :: starEach [e2] X.env := by rfl) (hpl : (backTo pos (starEach [e2] X.env)).any (·.1) = false := by rfl) :
    PE X (.Call (.Name "Floor" p) (e1 :: [e2]) [] pos) (tMakeS C (spInit C CN) (WE W) ta) := by
  obtain ⟨f, fd, m, F, b⟩ := M.ex
  exact pe_makeS m F (hr.mono hk) hg g b (fun σ => L2N.passAt tk σ) ha (by decide) he hpl
end
/-! ### how many numbers there are in a list -/
def manyF (ns : List Int) : Nat := (PyProof.Rows.firstMet (fun i => ns.getD i 0) ns.length).length
theorem met_mem {f : Nat → Int} : ∀ {i j : Nat}, j < i → f j ∈ PyProof.Rows.firstMet f i
  | i + 1, j, h => by
    rw [PyProof.Rows.firstMet_succ]
    unfold step_dedup
    by_cases c : j = i
    · subst c
      split
      · rename_i h2
        obtain ⟨z, hz, e⟩ := List.any_eq_true.mp h2
        rw [← beq_iff_eq.mp e]
        exact hz
      · exact List.mem_append_right _ (List.mem_singleton.mpr rfl)
    · have := met_mem (f := f) (i := i) (j := j) (by omega)
      split
      · exact this
      · exact List.mem_append_left _ this
theorem met_one {f : Nat → Int} {v : Int} : ∀ {i : Nat}, (∀ j, j < i + 1 → f j = v) → PyProof.Rows.firstMet f (i + 1) = [v]
  | 0, h => by
    rw [PyProof.Rows.firstMet_succ, h 0 (by omega)]
    rfl
  | i + 1, h => by
    rw [PyProof.Rows.firstMet_succ, met_one (i := i) fun j hj => h j (by omega), h (i + 1) (by omega)]
    unfold step_dedup
    rw [if_pos (by simp)]
theorem met_len {f : Nat → Int} : ∀ i : Nat, (PyProof.Rows.firstMet f i).length ≤ i
  | 0 => Nat.le_refl _
  | i + 1 => by
    have := met_len (f := f) i
    rw [PyProof.Rows.firstMet_succ]
    unfold step_dedup
    split
    · omega
    · rw [List.length_append, List.length_singleton]
      omega
theorem many_one {ns : List Int} (h : 1 ≤ ns.length) : manyF ns = 1 ↔ ∀ x ∈ ns, x = ns.getD 0 0 := by
  unfold manyF
  obtain ⟨n, hn⟩ : ∃ n, ns.length = n + 1 := ⟨ns.length - 1, by omega⟩
  have get : ∀ (j : Nat) (hj : j < ns.length), ns.getD j 0 = ns[j] := fun j hj => by
    rw [List.getD_eq_getElem?_getD, List.getElem?_eq_getElem hj]
    rfl
  constructor
  · intro e x hx
    obtain ⟨j, hj, rfl⟩ := List.mem_iff_getElem.mp hx
    obtain ⟨v, hv⟩ := List.length_eq_one_iff.mp e
    have h1 := met_mem (f := fun i => ns.getD i 0) hj
    have h2 := met_mem (f := fun i => ns.getD i 0) (show 0 < ns.length by omega)
    rw [hv, List.mem_singleton] at h1 h2
    rw [h2, ← h1, get j hj]
  · intro hall
    rw [hn, met_one (v := ns.getD 0 0) fun j hj => ?_]
    · rfl
    · rw [get j (by omega)]
      exact hall _ (List.getElem_mem _)
def tLenMany (K : PySem.W.Frag) (ta : TE) : TE := fun σ H Q => ta σ H fun x H1 => ∃ (l : Addr) (ns : List Int), x = .ref l ∧ SqL K H1 l (ns.map V.int) ∧ ns.length ≤ 1000 ∧ Q (.int (manyF ns : Nat)) H1
/-- len(set(xs)), xs a list of whole numbers -/
theorem pe_lenMany {X : Cx} {a : Expr} {ta : TE} {p p2 q pos : Pos} (hg : Gl X "len") (hm : X.mg "len" = none) (hg2 : Gl X "set") (hm2 : X.mg "set" = none) (ha : PE X a ta) (hc : X.calm = true := by rfl) (na : starEach [a] X.env = (false, eval a X.env) :: starEach [] X.env := by rfl) :
    PE X (.Call (.Name "len" p) [.Call (.Name "set" p2) [a] [] q] [] pos) (tLenMany X.K ta) := by
  refine ⟨fun pins s σ H Q I h => Call_ (ld_blt I hg hm boot_len (PyProof.Rows.callWith_builtin1 (PyProof.Rows.args_cons ?_ rfl) rfl rfl))⟩
  refine Call_ (ld_blt I hg2 hm2 boot_set (PyProof.Rows.callWith_type1 (PyProof.Rows.args_cons (thn (ha.run pins s σ H _ I h) fun v s1 ⟨x, H1, I1, r1, l, ns, ex, hq, hl, q1⟩ => PyProof.Rows.args_nil ?_) na) na rfl))
  subst ex
  cases r1
  obtain ⟨its, r, pl, hz⟩ := I1.list hq
  have el : its.toArray.size = ns.length := (List.size_toArray ..).trans (r.length.symm.trans (List.length_map ..))
  have hint : PyProof.Rows.IntsAre its.toArray.toList ns := by simpa using RZ.intsAre_vals r
  refine call_set_list (I1.ok.hd hc) pl.isList hint (by unfold scanBound; omega) fun h' tk hS hk => PyProof.Rows.args_nil ?_
  rw [el] at hS
  obtain ⟨o, es, ep, t, ho, hex, hd, _, _, _, hf, hn⟩ := hS
  have I2 : Inv X pins σ H1 { s1 with heap := h', toks := tk } := I1.kept fun b o e => hk b o (Heap.lt_size e) e
  have hn : es.size = manyF ns := hn
  have hml : manyF ns ≤ 1000 := Nat.le_trans (met_len (f := fun i => ns.getD i 0) ns.length) hl
  exact call_len_set ho hex hd hf (by omega) ⟨.int (manyF ns), H1, I2.tok _, ⟨_, by rw [hn]⟩, q1⟩
end CF

namespace CF
open PySem L2 PyProof.Rows
/-! ### which places hang together: by names -/
def gStep (g : Nat → Nat) (d : Int × Int) : Nat → Nat := fun i => if g i = g d.2.toNat then g d.1.toNat else g i
def gF (ds : List (Int × Int)) : Nat → Nat := ds.foldl gStep id
def namesB (n : Nat) (ds : List (Int × Int)) : Bool := (List.range n).all fun i => decide (gF ds i = gF ds 0)
def lgood (n : Int) (ds : List (Int × Int)) : Bool := decide (1 ≤ n) && decide (n ≤ 6) && goodB n ds && namesB n.toNat ds
theorem gF_snoc (ds : List (Int × Int)) (d : Int × Int) : gF (ds ++ [d]) = gStep (gF ds) d := by
  unfold gF
  rw [List.foldl_append]
  rfl
theorem g_inv {all : List (Int × Int)} (S : Int → Prop) (hS : ∀ d ∈ all, 0 ≤ d.1 ∧ 0 ≤ d.2 ∧ (S d.1 ↔ S d.2)) : ∀ (rest : List (Int × Int)) (g : Nat → Nat), (∀ d ∈ rest, d ∈ all) → (∀ i j : Nat, g i = g j → (S (i : Int) ↔ S (j : Int))) →
    ∀ i j : Nat, rest.foldl gStep g i = rest.foldl gStep g j → (S (i : Int) ↔ S (j : Int))
  | [], g, _, h => h
  | d :: rest, g, hr, h => by
    refine g_inv S hS rest (gStep g d) (fun z hz => hr z (List.mem_cons_of_mem _ hz)) fun i j e => ?_
    obtain ⟨h1, h2, h3⟩ := hS d (hr d List.mem_cons_self)
    have e1 : ((d.1.toNat : Nat) : Int) = d.1 := by omega
    have e2 : ((d.2.toNat : Nat) : Int) = d.2 := by omega
    rw [← e1, ← e2] at h3
    have e : (if g i = g d.2.toNat then g d.1.toNat else g i) = (if g j = g d.2.toNat then g d.1.toNat else g j) := e
    by_cases c1 : g i = g d.2.toNat
    · by_cases c2 : g j = g d.2.toNat
      · exact h i j (c1.trans c2.symm)
      · rw [if_pos c1, if_neg c2] at e
        exact (h _ _ c1).trans (h3.symm.trans (h _ _ e))
    · by_cases c2 : g j = g d.2.toNat
      · rw [if_neg c1, if_pos c2] at e
        exact (h _ _ e).trans (h3.trans (h _ _ c2).symm)
      · rw [if_neg c1, if_neg c2] at e
        exact h i j e
theorem g_keep : ∀ (rest : List (Int × Int)) (g : Nat → Nat) (a b : Nat), g a = g b → rest.foldl gStep g a = rest.foldl gStep g b
  | [], _, _, _, h => h
  | d :: rest, g, a, b, h => by
    refine g_keep rest (gStep g d) a b ?_
    show (if g a = g d.2.toNat then g d.1.toNat else g a) = (if g b = g d.2.toNat then g d.1.toNat else g b)
    rw [h]
theorem g_door : ∀ (rest : List (Int × Int)) (g : Nat → Nat), ∀ d ∈ rest, rest.foldl gStep g d.1.toNat = rest.foldl gStep g d.2.toNat
  | [], _, d, h => nomatch h
  | z :: rest, g, d, h => by
    rcases List.mem_cons.mp h with rfl | h
    · refine g_keep rest (gStep g d) _ _ ?_
      show (if g d.1.toNat = g d.2.toNat then g d.1.toNat else g d.1.toNat) = (if g d.2.toNat = g d.2.toNat then g d.1.toNat else g d.2.toNat)
      rw [if_pos rfl]
      split <;> rfl
    · exact g_door rest (gStep g z) d h
theorem names_conn {n : Nat} {ds : List (Int × Int)} (hv : ValP n ds) : namesB n ds = true ↔ Conn n ds := by
  unfold namesB
  rw [List.all_eq_true]
  constructor
  · intro h S hS x y hx hxn hy hyn
    have inv := g_inv (all := ds) S (fun d hd => by obtain ⟨v1, v2, v3⟩ := hv d hd; exact ⟨v1, by omega, hS d hd⟩) ds id (fun _ h => h) (fun i j e => by rw [show i = j from e])
    have e1 := of_decide_eq_true (h x.toNat (List.mem_range.mpr (by omega)))
    have e2 := of_decide_eq_true (h y.toNat (List.mem_range.mpr (by omega)))
    have := inv x.toNat y.toNat (e1.trans e2.symm)
    rw [show ((x.toNat : Nat) : Int) = x by omega, show ((y.toNat : Nat) : Int) = y by omega] at this
    exact this.mp
  · intro h i hi
    have hi := List.mem_range.mp hi
    refine decide_eq_true ?_
    have := h (fun z => gF ds z.toNat = gF ds 0) (fun d hd => by
      have e : gF ds d.1.toNat = gF ds d.2.toNat := g_door ds id d hd
      show gF ds d.1.toNat = gF ds 0 ↔ gF ds d.2.toNat = gF ds 0
      rw [e]) 0 (i : Int) (by omega) (by omega) (by omega) (by omega) rfl
    simpa using this
theorem addR_all {S : Int → Prop} {R : List Int} {x : Int} (h : ∀ y ∈ R, S y) (hx : S x) : ∀ y ∈ addR R x, S y := fun y hy => by
  rcases addR_or hy with h1 | rfl
  · exact h y h1
  · exact hx
theorem rLap_all {S : Int → Prop} : ∀ (ds : List (Int × Int)) (R : List Int), (∀ d ∈ ds, S d.1 ↔ S d.2) → (∀ y ∈ R, S y) → ∀ y ∈ rLap ds R, S y
  | [], _, _, h => h
  | d :: ds, R, hS, h => by
    refine rLap_all ds (rStep R d) (fun z hz => hS z (List.mem_cons_of_mem _ hz)) ?_
    have hd := hS d List.mem_cons_self
    unfold rStep
    split
    · rename_i c
      have h1 : S d.1 := by
        rcases c with c | c
        · exact h _ c
        · exact hd.mpr (h _ c)
      exact addR_all (addR_all h h1) (hd.mp h1)
    · exact h
theorem rLaps_all {S : Int → Prop} {ds : List (Int × Int)} (hS : ∀ d ∈ ds, S d.1 ↔ S d.2) (h0 : S 0) : ∀ k, ∀ y ∈ rLaps ds k, S y
  | 0, y, hy => by
    have e : y = 0 := by simpa [rLaps] using hy
    rw [e]
    exact h0
  | k + 1, y, hy => rLap_all ds _ hS (rLaps_all hS h0 k) y hy
theorem reached_conn {n : Nat} {ds : List (Int × Int)} (hn : 1 ≤ n) (hv : ValP n ds) : reachedB n ds = true ↔ Conn n ds := by
  refine ⟨fun h S hS x y hx hxn hy hyn => ?_, reached_of hn hv⟩
  unfold reachedB at h
  rw [beq_iff_eq] at h
  have key : ∀ k, (rLaps ds k).Nodup ∧ ∀ y ∈ rLaps ds k, 0 ≤ y ∧ y < (n : Int) := fun k => by
    induction k with
    | zero => exact ⟨by simp [rLaps], fun y hy => by simp [rLaps] at hy; omega⟩
    | succ k ih => exact ⟨rLap_nodup ds ih.1, rLap_in (n := n) ds hv ih.2⟩
  obtain ⟨h1, h2⟩ := key n
  have hall : ∀ z : Int, 0 ≤ z → z < n → z ∈ rLaps ds n := fun z hz hzn => by
    refine Classical.byContradiction fun c => ?_
    have := nodup_len (n := n) (R := z :: rLaps ds n) (List.nodup_cons.mpr ⟨c, h1⟩) fun y hy => by
      rcases List.mem_cons.mp hy with rfl | hy
      · exact ⟨hz, hzn⟩
      · exact h2 y hy
    rw [List.length_cons] at this
    omega
  have all0 := rLaps_all (S := fun z => S z ↔ S 0) (ds := ds) (fun d hd => by
    have := hS d hd
    show (S d.1 ↔ S 0) ↔ (S d.2 ↔ S 0)
    rw [this]) Iff.rfl n
  exact fun hxS => (all0 y (hall y hy hyn)).mpr ((all0 x (hall x hx hxn)).mp hxS)
theorem good_val {n : Nat} {ds : List (Int × Int)} (h : goodB (n : Int) ds = true) : ValP n ds := fun p hp => by
  obtain ⟨k, hk, rfl⟩ := List.mem_iff_getElem.mp hp
  unfold goodB at h
  have := (List.all_eq_true.mp h) k (List.mem_range.mpr hk)
  unfold goodAt at this
  rw [List.getElem?_eq_getElem hk] at this
  simp only [Bool.and_eq_true, decide_eq_true_eq] at this
  exact ⟨this.1.1.1, this.1.1.2, this.1.2⟩
/-- the program looks at a floor as the law does -/
theorem lgood_floor (n : Int) (ds : List (Int × Int)) : lgood n ds = floorB n ds := by
  unfold lgood floorB
  by_cases h1 : 1 ≤ n
  case neg => rw [decide_eq_false h1]; rfl
  by_cases h6 : n ≤ 6
  case neg => rw [decide_eq_false h6, Bool.and_false]; rfl
  cases hg : goodB n ds with
  | false => rw [Bool.and_false]; rfl
  | true =>
    obtain ⟨m, rfl⟩ : ∃ m : Nat, n = (m : Int) := ⟨n.toNat, by omega⟩
    have hv := good_val hg
    rw [Int.toNat_natCast]
    congr 1
    rw [Bool.eq_iff_iff, names_conn hv, reached_conn (by omega) hv]
theorem many_names {n : Nat} {ds : List (Int × Int)} (hn : 1 ≤ n) : decide (V.int (manyF (asI ((List.range n).map (gF ds))) : Nat) = V.int 1) = namesB n ds := by
  have hl : (asI ((List.range n).map (gF ds))).length = n := by rw [asI_len, List.length_map, List.length_range]
  have hm := many_one (ns := asI ((List.range n).map (gF ds))) (by omega)
  have get0 : (asI ((List.range n).map (gF ds))).getD 0 0 = ((gF ds 0 : Nat) : Int) := by
    obtain ⟨m, rfl⟩ : ∃ m, n = m + 1 := ⟨n - 1, by omega⟩
    rw [List.range_succ_eq_map]
    rfl
  rw [get0] at hm
  unfold namesB
  rw [Bool.eq_iff_iff, decide_eq_true_eq, List.all_eq_true]
  constructor
  · intro e i hi
    have e := V.int.inj e
    refine decide_eq_true ?_
    have := hm.mp (by omega) (gF ds i : Int) (mem_asI.mpr (List.mem_map.mpr ⟨i, hi, rfl⟩))
    omega
  · intro h
    have : manyF (asI ((List.range n).map (gF ds))) = 1 := hm.mpr fun x hx => by
      unfold asI at hx
      obtain ⟨z, hz, rfl⟩ := List.mem_map.mp hx
      obtain ⟨i, hi, rfl⟩ := List.mem_map.mp hz
      have := of_decide_eq_true (h i hi)
      rw [this]
    rw [this]
    rfl
/-! ### promises -/
def spNext : Sp := fun vs H Q _ => ∃ k : Int, vs = [.int k] ∧ ∀ z : Int, Q (.int z) H
def spGood : Sp := fun vs H Q _ => ∃ (F : Hp) (n : Int) (v : V) (ds : List (Int × Int)), vs = [.int n, v] ∧ Same F H ∧ PairL F v ds ∧ ds.length ≤ 1000 ∧ ∀ F' H', Grow F H F' H' → Q (.bl (floorB n ds)) H'
def spSpoilt : Sp := fun vs H Q _ => ∃ (F : Hp) (v : V) (ds : List (Int × Int)) (k c : Int), vs = [v, .int k, .int c] ∧ Same F H ∧ PairL F v ds ∧ 0 < ds.length ∧ ds.length ≤ 100 ∧ ∀ F' H' u ds', Grow F H F' H' → PairL F' u ds' → ds'.length ≤ 1000 → Q u H'
def spTold1 (C : Addr) : Sp := fun vs H Q _ => ∃ (F : Hp) (n : Int) (v : V) (ds : List (Int × Int)), vs = [.int n, v] ∧ Same F H ∧ PairL F v ds ∧ ds.length ≤ 1000 ∧
  (floorB n ds = true → ∀ F' H' t x dx d ys, Grow F H F' H' → F' t = some (.tup [nv 0, .ref x]) → F' x = some (.ins C dx (flds n d)) → F' d = some (.lst ys) → Paired (PairT F') ys ds → H x = none → H d = none → Q (.ref t) H') ∧
  (floorB n ds = false → ∀ F' H' t, Grow F H F' H' → F' t = some (.tup [nv 1, .non]) → Q (.ref t) H')
/-- doors, whichever -/
theorem doors_of {F : Hp} : ∀ {ys : List V}, (∀ y ∈ ys, ∃ p, PairT F y p) → ∃ ds, Paired (PairT F) ys ds
  | [], _ => ⟨[], .nil⟩
  | y :: ys, h => by
    obtain ⟨p, hp⟩ := h y List.mem_cons_self
    obtain ⟨ds, hds⟩ := doors_of (ys := ys) fun z hz => h z (List.mem_cons_of_mem _ hz)
    exact ⟨p :: ds, .cons hp hds⟩
theorem doors_in {F : Hp} {ys : List V} {ds : List (Int × Int)} (h : Paired (PairT F) ys ds) : ∀ y ∈ ys, ∃ p, PairT F y p := fun y hy => by
  obtain ⟨i, hi, e⟩ := List.mem_iff_getElem.mp hy
  obtain ⟨p, _, hp⟩ := paired_get' h (show ys[i]? = some y by rw [List.getElem?_eq_getElem hi, e])
  exact ⟨p, hp⟩
theorem cut_in {ys : List V} {lo hi : Option Int} : ∀ y ∈ cutV ys lo hi, y ∈ ys := fun y hy => List.mem_of_mem_drop (List.mem_of_mem_take hy)
theorem PairL.cut {F : Hp} {v : V} {ds : List (Int × Int)} (h : PairL F v ds) : ∃ a ys, v = .ref a ∧ F a = some (.lst ys) ∧ ys.length = ds.length ∧ ∀ y ∈ ys, ∃ p, PairT F y p := by
  obtain ⟨a, ys, e1, e2, hp⟩ := h
  exact ⟨a, ys, e1, e2, paired_len hp, doors_in hp⟩
end CF
namespace CF
open PySem L2 PyProof.Rows
/-! ### pieces of a list of doors -/
def Pc (F : Hp) (p : Addr) (n : Nat) : Prop := ∃ xs, F p = some (.lst xs) ∧ xs.length ≤ n ∧ ∀ y ∈ xs, ∃ q, PairT F y q
section
variable {K : PySem.W.Frag} {G H F H1 : Hp} {p q : Addr} {n m : Nat} {Q : VK}
theorem Pc.ext {F' : Hp} (e : Same F F') (h : Pc F p n) : Pc F' p n := by
  obtain ⟨xs, h1, h2, h3⟩ := h
  exact ⟨xs, e _ _ h1, h2, fun y hy => by obtain ⟨z, hz⟩ := h3 y hy; exact ⟨z, hz.ext e⟩⟩
theorem Pc.doors (h : Pc F p n) : ∃ ds, PairL F (.ref p) ds ∧ ds.length ≤ n := by
  obtain ⟨xs, h1, h2, h3⟩ := h
  obtain ⟨ds, hds⟩ := doors_of h3
  exact ⟨ds, ⟨p, xs, rfl, h1, hds⟩, by rw [← paired_len hds]; exact h2⟩
theorem Pc.new (g : Grow G H F H1) {xs : List V} (hl : xs.length ≤ n) (h : ∀ y ∈ xs, ∃ z, PairT F y z) (hp : H1 p = none) : Grow G H (upd F p (.lst xs)) (upd H1 p (.lst xs)) ∧ Same F (upd F p (.lst xs)) ∧ Pc (upd F p (.lst xs)) p n := by
  have s := same_new (.lst xs) (g.sub.free hp)
  exact ⟨g.alloc _ hp, s, xs, upd_same, hl, fun y hy => by obtain ⟨z, hz⟩ := h y hy; exact ⟨z, hz.ext s⟩⟩
theorem Pc.slice {lo hi : Option Int} (g : Grow G H F H1) (h : Pc F p n) (k : ∀ F2 H2 l, Grow G H F2 H2 → Same F F2 → Pc F2 l n → Q (.ref l) H2) : rSlL K (.ref p) lo hi H1 Q := by
  obtain ⟨xs, h1, h2, h3⟩ := h
  refine ⟨p, xs, rfl, SqL.of (g.sub _ _ h1), fun l hl => ?_⟩
  obtain ⟨g2, s2, pc⟩ := Pc.new (n := n) g (xs := cutV xs lo hi) (Nat.le_trans (cutV_length ..) h2) (fun y hy => h3 y (cut_in y hy)) hl
  exact k _ _ _ g2 s2 pc
theorem Pc.cat (g : Grow G H F H1) (h : Pc F p n) (h' : Pc F q m) (hnm : n + m ≤ 1000) (k : ∀ F2 H2 l, Grow G H F2 H2 → Same F F2 → Pc F2 l (n + m) → Q (.ref l) H2) : rCat (.ref p) (.ref q) H1 Q := by
  obtain ⟨xs, h1, h2, h3⟩ := h
  obtain ⟨zs, h1', h2', h3'⟩ := h'
  refine ⟨p, q, xs, zs, rfl, rfl, g.sub _ _ h1, g.sub _ _ h1', by rw [sizeLine_eq]; omega, fun l hl => ?_⟩
  obtain ⟨g2, s2, pc⟩ := Pc.new (n := n + m) g (xs := xs ++ zs) (by rw [List.length_append]; omega) (fun y hy => by
    rcases List.mem_append.mp hy with hy | hy
    · exact h3 y hy
    · exact h3' y hy) hl
  exact k _ _ _ g2 s2 pc
theorem Pc.one1 {x : V} {l : Addr} (g : Grow G H F H1) (hx : ∃ z, PairT F x z) (hl : H1 l = none) : Grow G H (upd F l (.lst [x])) (upd H1 l (.lst [x])) ∧ Same F (upd F l (.lst [x])) ∧ Pc (upd F l (.lst [x])) l 1 :=
  Pc.new (n := 1) g (xs := [x]) (Nat.le_refl _) (fun y hy => by rw [List.mem_singleton.mp hy]; exact hx) hl
end
theorem pair_drop {F : Hp} {h : Addr} {zs : List V} {y : V} {p : Int × Int} (hy : PairT F y p) (hh : F h = some (.lst zs)) : PairT (fun a => if a = h then none else F a) y p := by
  obtain ⟨t, rfl, ht⟩ := hy
  refine ⟨t, rfl, ?_⟩
  show (if t = h then none else F t) = _
  rw [if_neg (fun e => by rw [e, hh] at ht; cases ht)]
  exact ht
/-- the floor just made, in the view -/
theorem mk_grow {G H F H1 H' : Hp} {n : Int} {C x dx d : Addr} {ys : List V} (g : Grow G H F H1) (hx : H1 x = none) (hdx : H1 dx = none) (hd : (upd (upd H1 dx (.own x)) x (.ins C dx [])) d = none) (kp : ∀ b o, (upd (upd H1 dx (.own x)) x (.ins C dx [])) b = some o → b ≠ x → H' b = some o)
    (hx' : H' x = some (.ins C dx (flds n d))) (hd' : H' d = some (.lst ys)) : d ≠ x ∧ H1 d = none ∧ Same F (upd (upd F d (.lst ys)) x (.ins C dx (flds n d))) ∧ Grow G H (upd (upd F d (.lst ys)) x (.ins C dx (flds n d))) H' := by
  have s1 : Same H1 (upd (upd H1 dx (.own x)) x (.ins C dx [])) := fun b o e => by
    rw [upd_ne (ne_of_none e hx), upd_ne (ne_of_none e hdx)]
    exact e
  have hFx : F x = none := g.sub.free hx
  have hd1 : H1 d = none := s1.free hd
  have hFd : F d = none := g.sub.free hd1
  have ndx : d ≠ x := fun e => by
    rw [e, upd_same] at hd
    cases hd
  have s2 : Same F (upd (upd F d (.lst ys)) x (.ins C dx (flds n d))) := (same_new _ hFd).trans (same_new _ (by rw [upd_ne ndx.symm]; exact hFx))
  refine ⟨ndx, hd1, s2, g.ss.trans s2, fun b o e => ?_, fun b o e => ?_, fun b o e => ?_⟩
  · by_cases c : b = x
    · subst c
      rw [upd_same] at e
      rw [← e]
      exact hx'
    · rw [upd_ne c] at e
      by_cases c2 : b = d
      · subst c2
        rw [upd_same] at e
        rw [← e]
        exact hd'
      · rw [upd_ne c2] at e
        exact kp b o (s1 _ _ (g.sub _ _ e)) c
  · have e1 := g.keep _ _ e
    exact kp b o (s1 _ _ e1) (ne_of_none e1 hx)
  · by_cases c : b = x
    · subst c
      exact .inr (.inl (g.keep.free hx))
    · rw [upd_ne c] at e
      by_cases c2 : b = d
      · subst c2
        exact .inr (.inl (g.keep.free hd1))
      · rw [upd_ne c2] at e
        exact g.new b o e
end CF


namespace CF
open PySem L2
def top (i : Nat) : Stmt := PySem.Challenge.pw_chasefloor_k01_floors_made.main.body.getD i (.Pass ⟨0, 0, 0, 0⟩)
abbrev s_all_reached : Stmt := top 10
abbrev s_init : Stmt := inClass (top 11) 0
abbrev s_law_cell_at : Stmt := top 13
abbrev s_law_next : Stmt := top 14
abbrev s_law_floor_by : Stmt := top 15
abbrev s_law_other : Stmt := top 17
abbrev s_law_good : Stmt := top 18
abbrev s_law_spoilt : Stmt := top 19
abbrev s_law_told : Stmt := top 20
abbrev s_law : Stmt := top 21
end CF
namespace CF
open PySem L2 PyProof.Rows
section
variable {P : Program} {w : World} {K : PySem.W.Frag} {mg : Str → Option Value} {base : Heap}
theorem sc_cell : FnScope ["script", "k"] ["script", "k"] (defScope s_law_cell_at) := ⟨rfl, rfl, rfl, by decide +kernel, rfl, by decide +kernel, by decide +kernel⟩
theorem ok_cell {f : Addr} {fd : FuncData} (F : Fun K "_law_cell_at" "_law_cell_at" s_law_cell_at f fd) (ml : mg "len" = none) : FnOk P w K mg base CX0 1 f fd ["script", "k"] (spCell K) := by
  refine F.ok sc_cell (fun vs H Q E h => ?_) (fun cdv A outer s H vs Q E hr h => ?_)
  · obtain ⟨a, sc, k, rfl, _⟩ := h
    rfl
  · obtain ⟨a, sc, k, rfl, ⟨ha, hl⟩, hk, q⟩ := h
    refine ⟨_, pss_cons (ps_if (pt_cmpR op_lt (pv 1) (pe_callB call_len_seq (by rfl) ml PySem.boot_len (pa_cons (pv 0) pa_nil)) (nomark _))
      (pss_one (ps_ret (pe_ix (r := rIxL K) ix_list (pv 0) (pv 1) (fun _ _ => rfl)))) pss_nil) (pss_one (ps_ret pe_int)), ?_⟩
    have el : (intsV sc).length = sc.length := by simp [intsV]
    refine ⟨_, rfl, _, rfl, a, _, rfl, .inl (ha), _, _, rfl, rfl, _, rfl, ?_⟩
    rw [el]
    by_cases c : k < (sc.length : Int)
    · refine iteDT c ⟨_, rfl, _, rfl, a, _, k, .int (cellF sc k), rfl, rfl, ha, ?_, q⟩
      have h1 : k.toNat < sc.length := by omega
      have h2 : (intsV sc)[k.toNat]? = some (.int (cellF sc k)) := by
        unfold intsV cellF
        rw [List.getElem?_map, List.getElem?_eq_getElem h1]
        simp [h1]
      have h3 := atI_nat h2
      rwa [show ((k.toNat : Nat) : Int) = k by omega] at h3
    · refine iteDF c ?_
      have e : cellF sc k = 0 := by
        unfold cellF
        rw [List.getD_eq_getElem?_getD, List.getElem?_eq_none (by omega)]
        rfl
      rw [e] at q
      exact q
end
end CF

namespace CF
open PySem L2 PyProof.Rows
section
variable {P : Program} {w : World} {K : PySem.W.Frag} {mg : Str → Option Value} {base : Heap}
abbrev NF : List Str := ["script", "most", "places", "doors", "place", "k", "one", "other", "found", "low", "high"]
theorem sc_lfloor : FnScope NF ["script", "most"] (defScope s_law_floor_by) := ⟨rfl, rfl, rfl, by decide +kernel, rfl, by decide +kernel, by decide +kernel⟩
theorem ok_lfloor {f : Addr} {fd : FuncData} (F : Fun K "_law_floor_by" "_law_floor_by" s_law_floor_by f fd) (mr : mg "range" = none) (mn : mg "min" = none) (mx : mg "max" = none) (ms : mg "sorted" = none)
    (CE : Cal P w K mg base 1 "_law_cell_at" ["script", "k"] (spCell K)) : FnOk P w K mg base CX0 2 f fd ["script", "most"] (spLFloor K) := by
  refine F.ok sc_lfloor (fun vs H Q E h => ?_) (fun cdv A outer s H vs Q E hr h => ?_)
  · obtain ⟨F, a, sc, most, rfl, _⟩ := h
    rfl
  · obtain ⟨G, a, sc, most, rfl, hG, hsc, hm3, hm6, k⟩ := h
    have hu := hr.units
    have hu1 := hu_of hr
    have nd := sc_lfloor.nd
    refine ⟨_, pss_cons (ps_set (i := 2) nd rfl (.inr rfl) (pe_op op_add pe_int (pe_op op_mod (pe_cl CE hr rfl (pa_cons (pv 0) (pa_cons pe_int pa_nil))) (pv 1))))
      (pss_cons (ps_set (i := 3) nd rfl (.inl rfl) pe_dnewT)
      (pss_cons (ps_cut (ps_for PassesOwn.never rfl (pi_range2 rfl mr (pa_cons pe_int (pa_cons (pv 2) pa_nil))) (pg_name (i := 4) nd rfl (.inl rfl))
        (pss_one (ps_dput hu1 (pv 3) (pe_tup (pa_cons (pe_op op_mod (pe_cl CE hr rfl (pa_cons (pv 0) (pa_cons (pv 4) pa_nil))) (pv 4)) (pa_cons (pv 4) pa_nil))) pe_bl rfl))))
      (pss_cons (ps_cut (ps_for PassesOwn.never rfl (pi_range1 rfl mr (pa_cons (pe_op op_mod (pe_cl CE hr rfl (pa_cons (pv 0) (pa_cons pe_int pa_nil))) pe_int) pa_nil)) (pg_name (i := 5) nd rfl (.inl rfl))
        (pss_cons (ps_set (i := 6) nd rfl (.inl rfl) (pe_op op_mod (pe_cl CE hr rfl (pa_cons (pv 0) (pa_cons (pe_op op_add pe_int (pe_op op_mul pe_int (pv 5))) pa_nil))) (pv 2)))
        (pss_cons (ps_set (i := 7) nd rfl (.inl rfl) (pe_op op_mod (pe_cl CE hr rfl (pa_cons (pv 0) (pa_cons (pe_op op_add pe_int (pe_op op_mul pe_int (pv 5))) pa_nil))) (pv 2)))
        (pss_one (ps_if (pt_cmpR op_ne (pv 6) (pv 7) (nomark _))
          (pss_one (ps_dput hu1 (pv 3) (pe_tup (pa_cons (pe_callB (call_min2 rfl) (by rfl) mn (by decide +kernel) (pa_cons (pv 6) (pa_cons (pv 7) pa_nil))) (pa_cons (pe_callB (call_max2 rfl) (by rfl) mx (by decide +kernel) (pa_cons (pv 6) (pa_cons (pv 7) pa_nil))) pa_nil))) pe_bl rfl)) pss_nil))))))
      (pss_cons (ps_set (i := 8) nd rfl (.inl rfl) (pe_callB (cr_srtD rfl) (by rfl) ms PyProof.Rows.boot_sorted (pa_cons (pv 3) pa_nil)))
      (pss_cons (ps_cut (ps_if (pt_cmpR op_eq (pe_op op_mod (pe_cl CE hr rfl (pa_cons (pv 0) (pa_cons pe_int pa_nil))) pe_int) pe_int (nomark _))
        (pss_one (ps_set (i := 8) nd rfl (.inl rfl) (pe_callB cr_srtL (by rfl) ms PyProof.Rows.boot_sorted (pa_cons
          (pe_lc (own := [("low", 9), ("high", 10)]) (g := gTup K 2 (gCons (gName 9) (gCons (gName 10) gNil))) (tt := tYes) rfl nd (pi_list (pv 8)) (blkOk_by (N := NF) (sc := defScope s_law_floor_by) (by decide +kernel))
            (fun _ _ _ _ _ => pg_tup rfl (pgs_cons (pg_name (i := 9) nd rfl (.inl rfl)) (pgs_cons (pg_name (i := 10) nd rfl (.inl rfl)) pgs_nil))) (fun _ _ _ _ _ => pts_nil)
            (fun _ _ _ _ _ => pe_tup (pa_cons (pe_op op_sub (pe_op op_sub (pv 2) pe_int) (pv 10)) (pa_cons (pe_op op_sub (pe_op op_sub (pv 2) pe_int) (pv 9)) pa_nil)))) pa_nil)))) pss_nil))
      (pss_cons (ps_cut (ps_if (pt_cmpR op_eq (pe_op op_mod (pe_op op_fdiv (pe_cl CE hr rfl (pa_cons (pv 0) (pa_cons pe_int pa_nil))) pe_int) pe_int) pe_int (nomark _))
        (pss_cons (ps_set (i := 2) nd rfl (.inr rfl) (pe_callB (call_max2 rfl) (by rfl) mx (by decide +kernel) (pa_cons pe_int (pa_cons (pv 2) pa_nil))))
        (pss_one (ps_set (i := 8) nd rfl (.inl rfl) (pe_callB cr_srtL (by rfl) ms PyProof.Rows.boot_sorted (pa_cons (pe_op op_cat
          (pe_lc (own := [("k", 5)]) (g := gName 5) (tt := tYes) rfl nd (pi_range1 rfl mr (pa_cons (pe_op op_sub (pv 2) pe_int) pa_nil)) (blkOk_by (N := NF) (sc := defScope s_law_floor_by) (by decide +kernel))
            (fun _ _ _ _ _ => pg_name (i := 5) nd rfl (.inl rfl)) (fun _ _ _ _ _ => pts_nil) (fun _ _ _ _ _ => pe_tup (pa_cons (pv 5) (pa_cons (pe_op op_add (pv 5) pe_int) pa_nil))))
          (pe_lst (pa_cons (pe_tup (pa_cons pe_int (pa_cons (pe_op op_sub (pv 2) pe_int) pa_nil))) pa_nil))) pa_nil))))) pss_nil))
      (pss_one (ps_ret (pe_tup (pa_cons (pv 2) (pa_cons (pv 8) pa_nil))))))))))), ?_⟩
    have hsc0 := hsc.ext hG
    -- places, doors
    refine ⟨_, rfl, a, sc, 0, rfl, hsc0, by decide, _, rfl, _, _, rfl, rfl, by omega, _, _, rfl, rfl, ?_⟩
    obtain ⟨n0, hn0, hn0'⟩ := emod_nat (cellF sc 0) (n := most) (by omega)
    rw [hn0]
    obtain ⟨n, hn⟩ : ∃ n : Nat, n = 1 + n0 := ⟨_, rfl⟩
    have hn1 : 1 ≤ n := by omega
    have hnm : n ≤ most := by omega
    subst hn
    refine (show gName 2 (nv (1 + n0)) _ _ _ from ?_)
    generalize 1 + n0 = n at hn1 hnm
    clear hn0 hn0'
    intro kd hkd
    have Hk0 : H kd = none := hkd
    have Fk0 : G kd = none := hG.free hkd
    have g0 : Grow G H G (upd H kd (.dT [])) := (Grow.refl hG).hid _ hkd
    have hk0 : (upd H kd (.dT [])) kd = some (.dT (pD [])) := upd_same
    generalize upd H kd (.dT []) = H0 at g0 hk0
    -- for place in range(1, places)
    refine ⟨fun σ H' => ∃ (ps : List (Int × Int)) (o4 : Option V), σ = [some (.ref a), some (nv most), some (nv n), some (.ref kd), o4, none, none, none, none, none, none] ∧ Grow G H G H' ∧ H' kd = some (.dT (pD ps)) ∧ ps.Nodup ∧ ValP n ps ∧ Tree n ps ∧ ps.length ≤ 6, ?_, ?_⟩
    · refine ⟨_, rfl, 1, (n : Int), rfl, ⟨by omega, by omega, by omega, by omega⟩, for_range (lo := 1) (n := ((n : Int) - 1).toNat) (fun i σ H' => ∃ (ps : List (Int × Int)) (o4 : Option V), σ = [some (.ref a), some (nv most), some (nv n), some (.ref kd), o4, none, none, none, none, none, none] ∧
          Grow G H G H' ∧ H' kd = some (.dT (pD ps)) ∧ ps.Nodup ∧ ValP n ps ∧ Tree (i + 1) ps ∧ ps.length ≤ i)
        ⟨[], _, rfl, g0, hk0, List.nodup_nil, (fun p hp => by cases hp), (fun q h1 h2 => by omega), Nat.le_refl _⟩ ?_ ?_⟩
      · rintro i σ H1 hi ⟨ps, o4, rfl, g1, hk1, hnd, hv, ht, hl⟩
        obtain ⟨m, hm, hm'⟩ := emod_nat (cellF sc (1 + i)) (n := i + 1) (by omega)
        rw [show (((i + 1 : Nat)) : Int) = 1 + (i : Int) by omega] at hm
        refine ⟨_, rfl, _, rfl, _, rfl, a, sc, _, rfl, hsc.ext g1.sub, by omega, _, rfl, _, _, rfl, rfl, by omega, _, rfl, (by show 2 ≤ sizeLine; decide), fun t ht' => ?_⟩
        have g2 := g1.hid (.tup [.int (cellF sc (1 + (i : Int)) % (1 + (i : Int))), .int (1 + (i : Int))]) ht'
        have hk2 : (upd H1 t (.tup [.int (cellF sc (1 + (i : Int)) % (1 + (i : Int))), .int (1 + (i : Int))])) kd = some (.dT (pD ps)) := by rw [upd_ne (ne_of_none hk1 ht')]; exact hk1
        refine ⟨kd, _, rfl, DPut.t (k := kyP (cellF sc (1 + (i : Int)) % (1 + (i : Int)), 1 + (i : Int))) hk2 upd_same (by rw [pD_len, sizeLine_eq]; omega), ?_⟩
        rw [pD_put]
        refine ⟨_, _, rfl, g2.mut _ Fk0 Hk0, upd_same, addP_nodup hnd _, hv.add (by show (0 : Int) ≤ cellF sc (1 + (i : Int)) % (1 + (i : Int)); omega) (by show cellF sc (1 + (i : Int)) % (1 + (i : Int)) < 1 + i; omega) (by show (1 : Int) + i < n; omega), fun q h1 h2 => ?_, by have := addP_len ps (cellF sc (1 + (i : Int)) % (1 + (i : Int)), 1 + (i : Int)); omega⟩
        by_cases e : q = 1 + i
        · exact ⟨_, addP_mem _ _, e.symm, by show (0 : Int) ≤ cellF sc (1 + (i : Int)) % (1 + (i : Int)); omega, by show cellF sc (1 + (i : Int)) % (1 + (i : Int)) < q; omega⟩
        · obtain ⟨p, hp, r⟩ := ht q h1 (by omega)
          exact ⟨p, addP_sub _ _ _ hp, r⟩
      · rintro σ H1 ⟨ps, o4, rfl, g1, hk1, hnd, hv, ht, hl⟩
        exact ⟨ps, _, rfl, g1, hk1, hnd, hv, (by rw [show ((n : Int) - 1).toNat + 1 = n by omega] at ht; exact ht), by omega⟩
    rintro σ H1 ⟨ps, o4, rfl, g1, hk1, hnd, hv, ht, hl⟩
    -- for k in range(..)
    refine ⟨fun σ H' => ∃ (ps : List (Int × Int)) (o4 o5 o6 o7 : Option V), σ = [some (.ref a), some (nv most), some (nv n), some (.ref kd), o4, o5, o6, o7, none, none, none] ∧ Grow G H G H' ∧ H' kd = some (.dT (pD ps)) ∧ ps.Nodup ∧ ValP n ps ∧ Tree n ps ∧ ps.length ≤ 14, ?_, ?_⟩
    · obtain ⟨m, hm, hm'⟩ := emod_nat (cellF sc 6) (n := 8) (by omega)
      have hm : cellF sc 6 % 8 = (m : Int) := hm
      refine ⟨_, rfl, a, sc, 6, rfl, hsc.ext g1.sub, by decide, _, _, rfl, rfl, (by show (0 : Int) < 8; decide), cellF sc 6 % 8, rfl, by omega, by omega, for_range (lo := 0) (n := (cellF sc 6 % 8).toNat) (fun i σ H' => ∃ (ps : List (Int × Int)) (o4 o5 o6 o7 : Option V), σ = [some (.ref a), some (nv most), some (nv n), some (.ref kd), o4, o5, o6, o7, none, none, none] ∧ Grow G H G H' ∧ H' kd = some (.dT (pD ps)) ∧ ps.Nodup ∧ ValP n ps ∧ Tree n ps ∧ ps.length ≤ 6 + i)
        ⟨ps, _, _, _, _, rfl, g1, hk1, hnd, hv, ht, hl⟩ ?_ ?_⟩
      · rintro i σ H2 hi ⟨qs, p4, p5, p6, p7, rfl, g2, hk2, hnd2, hv2, ht2, hl2⟩
        rw [Int.zero_add]
        obtain ⟨x, hx, hx'⟩ := emod_nat (cellF sc (7 + 2 * (i : Int))) hn1
        obtain ⟨y, hy, hy'⟩ := emod_nat (cellF sc (8 + 2 * (i : Int))) hn1
        refine ⟨_, rfl, _, rfl, _, _, rfl, rfl, .inl ⟨by decide, by decide⟩, _, _, rfl, rfl, a, sc, _, rfl, hsc.ext g2.sub, by omega, _, rfl, _, _, rfl, rfl, by omega, ?_⟩
        refine (show gName 6 (V.int (cellF sc (7 + 2 * (i : Int)) % (n : Int))) _ _ _ from ?_)
        rw [hx]
        refine ⟨_, rfl, _, rfl, _, _, rfl, rfl, .inl ⟨by decide, by decide⟩, _, _, rfl, rfl, a, sc, _, rfl, hsc.ext g2.sub, by omega, _, rfl, _, _, rfl, rfl, by omega, ?_⟩
        refine (show gName 7 (V.int (cellF sc (8 + 2 * (i : Int)) % (n : Int))) _ _ _ from ?_)
        rw [hy]
        refine ⟨_, rfl, _, rfl, rfl, _, rfl, ?_⟩
        by_cases c : (x : Int) = (y : Int)
        · refine iteNF (by rw [c]) ?_
          exact ⟨qs, _, _, _, _, rfl, g2, hk2, hnd2, hv2, ht2, by omega⟩
        · refine iteNT (fun z => c (V.int.inj z)) ?_
          refine ⟨_, rfl, _, rfl, _, rfl, _, _, rfl, _, rfl, _, rfl, _, _, rfl, (by show 2 ≤ sizeLine; decide), fun t ht' => ?_⟩
          have g3 := g2.hid (.tup [.int (mnI x y), .int (mxI x y)]) ht'
          have hk3 : (upd H2 t (.tup [.int (mnI x y), .int (mxI x y)])) kd = some (.dT (pD qs)) := by rw [upd_ne (ne_of_none hk2 ht')]; exact hk2
          refine ⟨kd, _, rfl, DPut.t (k := kyP (mnI x y, mxI x y)) hk3 upd_same (by rw [pD_len, sizeLine_eq]; omega), ?_⟩
          rw [pD_put]
          have hmm : 0 ≤ mnI x y ∧ mnI x y < mxI x y ∧ mxI x y < (n : Int) := by
            unfold mnI mxI
            split <;> split <;> omega
          refine ⟨_, _, _, _, _, rfl, g3.mut _ Fk0 Hk0, upd_same, addP_nodup hnd2 _, hv2.add hmm.1 hmm.2.1 hmm.2.2, ht2.mono (addP_sub _ _), by have := addP_len qs (mnI x y, mxI x y); omega⟩
      · rintro σ H2 ⟨qs, p4, p5, p6, p7, rfl, g2, hk2, hnd2, hv2, ht2, hl2⟩
        exact ⟨qs, _, _, _, _, rfl, g2, hk2, hnd2, hv2, ht2, by omega⟩
    rintro σ H2 ⟨qs, p4, p5, p6, p7, rfl, g2, hk2, hnd2, hv2, ht2, hl2⟩
    -- found = sorted(doors)
    refine ⟨_, rfl, kd, pD qs, qs, rfl, .inl hk2, pD_keys qs, fun ys rs fl h1 h2 h3 h4 => ?_⟩
    obtain ⟨F3, g3, s3, h5⟩ := grow_prs g2 (prsV_of h3)
    have fl3 := FloOk.of hn1 (by omega) h1 h2 hnd2 hv2 ht2.conn (by omega)
    have g4 := g3.alloc (.lst ys) h4
    have hpl : PairL (upd F3 fl (.lst ys)) (.ref fl) rs := ⟨fl, ys, rfl, upd_same, paired_ext (fun _ _ h => h.ext (same_new _ (g3.sub.free h4))) h5⟩
    generalize upd H2 fl (.lst ys) = H4 at g4
    generalize upd F3 fl (.lst ys) = F4 at g4 hpl
    clear h1 h2 h3 h5 g3 s3 hnd2 hv2 ht2 hl2 hk2 g2 hk1 hnd hv ht hl g1 g0 hk0
    -- turned about
    refine ⟨fun σ H' => ∃ (F : Hp) (fv : V) (ds : List (Int × Int)) (o4 o5 o6 o7 o9 o10 : Option V), σ = [some (.ref a), some (nv most), some (nv n), some (.ref kd), o4, o5, o6, o7, some fv, o9, o10] ∧ Grow G H F H' ∧ PairL F fv ds ∧ FloOk n ds, ?_, ?_⟩
    · refine ⟨_, rfl, a, sc, 23, rfl, (hsc.ext g4.ss).ext g4.sub, by decide, _, _, rfl, rfl, (by show (0 : Int) < 2; decide), rfl, _, rfl, ?_⟩
      by_cases c : V.int (cellF sc 23 % 2) = V.int 1
      case neg => exact iteDF c ⟨F4, _, rs, _, _, _, _, _, _, rfl, g4, hpl, fl3⟩
      refine iteDT c ?_
      obtain ⟨fl', ys', e, hfl, hps⟩ := hpl
      cases e
      refine ⟨_, rfl, fl, rfl, ⟨ys', SqL.of (g4.sub _ _ hfl)⟩, fun D hD => ?_⟩
      have hyl := paired_len hps
      refine lcv_list (xs := ys') PairT (fun i => (rs[i]?).map (revP n)) (fun _ _ _ _ e h => h.ext e) g4.sub (SqL.of hfl) hD (by have := fl3.len; rw [sizeLine_eq]; omega) (fun j x F' H' hj g hFD ho Q' q => ?_) fun F5 H5 ws g5 w1 w2 => ?_
      · obtain ⟨p, hp, t, rfl, ht⟩ := paired_get' hps hj
        refine cs_yesP (p := p) (g.sub _ _ (g.ss _ _ ht)) ?_
        refine ⟨_, rfl, _, _, rfl, rfl, _, rfl, _, _, rfl, rfl, _, rfl, _, _, rfl, rfl, _, rfl, _, _, rfl, rfl, (by show 2 ≤ sizeLine; decide), fun t2 ht2 => ?_⟩
        exact q _ _ (some (.ref t2)) ((Grow.refl g.sub).alloc _ ht2) (by rw [hp]; exact ⟨t2, rfl, upd_same⟩)
      · rw [hyl, made_get] at w2
        refine ⟨D, ws, _, rfl, SqL.of (g5.sub _ _ w1), prsV_of (paired_ext (fun _ _ h => h.ext g5.sub) w2), fun ys2 qs2 fl2 k1 k2 k3 k4 => ?_⟩
        obtain ⟨F6, g6, s6, k5⟩ := grow_prs (g4.trans g5) (prsV_of k3)
        exact ⟨_, _, qs2, _, _, _, _, _, _, rfl, g6.alloc (.lst ys2) k4, ⟨fl2, ys2, rfl, upd_same, paired_ext (fun _ _ h => h.ext (same_new _ (g6.sub.free k4))) k5⟩, FloOk.of hn1 (by omega) k1 k2 (rev_nodup fl3.nd) fl3.val.rev fl3.con.rev (by rw [List.length_map]; exact fl3.len)⟩
    rintro σ H5 ⟨F5, fv, ds, o4, o5, o6, o7, o9, o10, rfl, g5, hpl5, fl5⟩
    -- a ring
    refine ⟨fun σ H' => ∃ (F : Hp) (n : Nat) (fv : V) (ds : List (Int × Int)) (o4 o5 o6 o7 o9 o10 : Option V), σ = [some (.ref a), some (nv most), some (nv n), some (.ref kd), o4, o5, o6, o7, some fv, o9, o10] ∧ Grow G H F H' ∧ PairL F fv ds ∧ FloOk n ds ∧ n ≤ most, ?_, ?_⟩
    · refine ⟨_, rfl, a, sc, 23, rfl, (hsc.ext g5.ss).ext g5.sub, by decide, _, _, rfl, rfl, (by show (0 : Int) < 2 ∧ (2 : Int) < 1073741824; decide), _, _, rfl, rfl, (by show (0 : Int) < 6; decide), rfl, _, rfl, ?_⟩
      by_cases c : V.int (cellF sc 23 / 2 % 6) = V.int 1
      case neg => exact iteDF c ⟨F5, n, _, ds, _, _, _, _, _, _, rfl, g5, hpl5, fl5, hnm⟩
      refine iteDT c ?_
      refine ⟨_, rfl, _, _, rfl, ?_⟩
      obtain ⟨m, hm, hm3⟩ : ∃ m : Nat, (if (n : Int) > 3 then (n : Int) else 3) = (m : Int) ∧ 3 ≤ m ∧ m ≤ most := by
        by_cases c : (n : Int) > 3
        · exact ⟨n, by rw [if_pos c], by omega, hnm⟩
        · exact ⟨3, by rw [if_neg c]; rfl, by omega, hm3⟩
      rw [hm]
      refine ⟨_, rfl, _, _, rfl, rfl, _, rfl, by omega, by omega, fun D hD => ?_⟩
      have em : ((m : Int) - 1).toNat = m - 1 := by omega
      refine lcv_range (n := ((m : Int) - 1).toNat) PairT (fun (i : Nat) => some ((i : Int), (i : Int) + 1)) (fun _ _ _ _ e h => h.ext e) g5.sub hD (by rw [sizeLine_eq]; omega) (fun i F' H' hi g hFD ho Q' q => ?_) fun F6 H6 ws g6 w1 w2 => ?_
      · rw [Int.zero_add]
        exact cs_yes ⟨_, rfl, _, rfl, _, _, rfl, rfl, (by show 2 ≤ sizeLine; decide), fun t ht => q _ _ (some (.ref t)) ((Grow.refl g.sub).alloc _ ht) ⟨t, rfl, upd_same⟩⟩
      rw [made_some, em] at w2
      have hwl := paired_len w2
      rw [List.length_map, List.length_range] at hwl
      refine ⟨_, rfl, _, _, rfl, rfl, (by show 2 ≤ sizeLine; decide), fun t ht => ⟨(by show 1 ≤ sizeLine; decide), fun l1 hl1 => ?_⟩⟩
      have g7 := ((g5.trans g6).alloc (.tup [.int 0, .int ((m : Int) - 1)]) ht).alloc (.lst [.ref t]) hl1
      have s7 : Same F6 (upd (upd F6 t (.tup [.int 0, .int ((m : Int) - 1)])) l1 (.lst [.ref t])) := (same_new _ (g6.sub.free ht)).trans (same_new _ (((g5.trans g6).alloc (.tup [.int 0, .int ((m : Int) - 1)]) ht).sub.free hl1))
      refine ⟨D, l1, ws, [.ref t], rfl, rfl, g7.sub _ _ (s7 _ _ w1), upd_same, by rw [sizeLine_eq]; simp; omega, fun l2 hl2 => ?_⟩
      have g8 := g7.alloc (.lst (ws ++ [.ref t])) hl2
      have ntl : t ≠ l1 := ne_of_none upd_same hl1
      have s8 := same_new (.lst (ws ++ [.ref t])) (g7.sub.free hl2)
      refine ⟨l2, ws ++ [.ref t], ringP m, rfl, SqL.of upd_same, prsV_of (paired_app (paired_ext (fun _ _ h => h.ext (s7.trans (s8.trans g8.sub))) w2) (.cons ⟨t, rfl, ?_⟩ .nil)), fun ys2 qs2 fl2 k1 k2 k3 k4 => ?_⟩
      · exact (s8.trans g8.sub) _ _ (by rw [upd_ne ntl]; exact upd_same)
      · obtain ⟨F9, g9, s9, k5⟩ := grow_prs g8 (prsV_of k3)
        refine ⟨_, m, _, qs2, _, _, _, _, _, _, rfl, g9.alloc (.lst ys2) k4, ⟨fl2, ys2, rfl, upd_same, paired_ext (fun _ _ h => h.ext (same_new _ (g9.sub.free k4))) k5⟩, FloOk.of (by omega) (by omega) k1 k2 (ring_nodup hm3.1) (ring_val hm3.1) ring_tree.conn (by unfold ringP; simp; omega), hm3.2⟩
    rintro σ H6 ⟨F6, m, fw, es, o4, o5, o6, o7, o9, o10, rfl, g6, hpl6, fl6, hm⟩
    refine ⟨_, rfl, _, rfl, (by show 2 ≤ sizeLine; decide), fun t ht => ?_⟩
    exact k _ _ m es t _ (g6.alloc (.tup [nv m, fw]) ht) fl6 hm upd_same (hpl6.ext (same_new _ (g6.sub.free ht)))
end
end CF

namespace CF
open PySem L2 PyProof.Rows
section
variable {P : Program} {w : World} {K : PySem.W.Frag} {mg : Str → Option Value} {base : Heap}
theorem sc_reached : FnScope ["places", "doors", "reached", "lap", "one", "other"] ["places", "doors"] (defScope s_all_reached) := ⟨rfl, rfl, rfl, by decide +kernel, rfl, by decide +kernel, by decide +kernel⟩
theorem ok_reached {f : Addr} {fd : FuncData} (F : Fun K "all_reached" "all_reached" s_all_reached f fd) (mr : mg "range" = none) (ml : mg "len" = none) : FnOk P w K mg base CX0 1 f fd ["places", "doors"] spReached := by
  refine F.ok sc_reached (fun vs H Q E h => ?_) (fun cdv A outer s H vs Q E hr h => ?_)
  · obtain ⟨F, n, v, ds, rfl, _⟩ := h
    rfl
  · obtain ⟨G, n, v, ds, rfl, hG, hds, hn, hlen, k⟩ := h
    have hu := hu_of hr
    obtain ⟨a, ys, rfl, ha, hys⟩ := hds
    refine ⟨_, pss_cons (ps_set (i := 2) sc_reached.nd rfl (.inl rfl) (pe_disp (pps_cons pe_int pe_bl pps_nil) (by rfl) (by rfl) (fun z => by cases z) (by decide)))
      (pss_cons (ps_for PassesOwn.never rfl (pi_range1 rfl mr (pa_cons (pv 0) pa_nil)) (pg_name (i := 3) sc_reached.nd rfl (.inl rfl))
        (pss_one (ps_for PassesOwn.never rfl (pi_list (pv 1)) (pg_tup rfl (pgs_cons (pg_name (i := 4) sc_reached.nd rfl (.inl rfl)) (pgs_cons (pg_name (i := 5) sc_reached.nd rfl (.inl rfl)) pgs_nil)))
          (pss_one (ps_if (PW.pt (pw_or (pt_cmp (pc_din hu (pv 4) (pv 2))) (pw_or1 (pt_cmp (pc_din hu (pv 5) (pv 2))))))
            (pss_cons (ps_dput hu (pv 2) (pv 4) pe_bl rfl) (pss_one (ps_dput hu (pv 2) (pv 5) pe_bl rfl))) pss_nil)))))
      (pss_one (ps_ret (pe_cmpR op_eq (pe_callB call_lenD (by rfl) ml PySem.boot_len (pa_cons (pv 2) pa_nil)) (pv 0) (nomark _))))), ?_⟩
    -- reached = {0: True}
    intro d hd
    refine ⟨upd_same, [(Sum.inl 0, .bl true)], rfl, by decide, ?_⟩
    rw [upd_upd]
    have g0 : Grow G H G (upd H d (.dK (rDict [0]))) := (Grow.refl hG).hid _ hd
    have dG : G d = none := hG.free hd
    -- for lap in range(places)
    refine ⟨_, rfl, (n : Int), rfl, by omega, by omega, for_range (lo := 0) (n := (n : Int).toNat) (fun i σ H' => ∃ (o1 o2 o3 : Option V), σ = [some (.int n), some (.ref a), some (.ref d), o1, o2, o3] ∧ Grow G H G H' ∧ H' d = some (.dK (rDict (rLaps ds i))))
      ⟨none, none, none, rfl, g0, upd_same⟩ ?_ ?_⟩
    · rintro i σ H1 hi ⟨o1, o2, o3, rfl, g1, h1⟩
      have hi' : i < n := by omega
      -- for one, other in doors
      refine ⟨_, rfl, a, rfl, ⟨ys, SqL.of (g1.sub _ _ (g1.ss _ _ ha))⟩, for_list (K := K) (a := a) (xs := ys) (fun j σ H' => ∃ (o1 o2 o3 : Option V), σ = [some (.int n), some (.ref a), some (.ref d), o1, o2, o3] ∧ Grow G H G H' ∧ H' d = some (.dK (rDict ((ds.take j).foldl rStep (rLaps ds i)))))
        ⟨_, _, _, rfl, g1, h1⟩ (fun j σ H' _ ⟨_, _, _, _, g2, _⟩ => SqL.of (g2.sub _ _ (g2.ss _ _ ha))) ?_ ?_⟩
      · rintro j x σ H2 hj ⟨o4, o5, o6, rfl, g2, h2⟩
        obtain ⟨p, hp, t, rfl, ht⟩ := paired_get' hys hj
        refine ⟨t, _, rfl, SqT.of (g2.sub _ _ (g2.ss _ _ ht)), rfl, _, _, rfl, _, _, rfl, rfl, ?_⟩
        -- if one in reached or other in reached
        have step : (ds.take (j + 1)).foldl rStep (rLaps ds i) = rStep ((ds.take j).foldl rStep (rLaps ds i)) p := by
          rw [take_snoc hp, List.foldl_append]
          rfl
        have hl : ((ds.take j).foldl rStep (rLaps ds i)).length ≤ 1 + 2 * ds.length * i + 2 * ds.length := by
          have l1 := foldl_rStep_length (ds.take j) (rLaps ds i)
          have l2 := rLaps_length ds i
          have l3 : (ds.take j).length ≤ ds.length := by rw [List.length_take]; omega
          omega
        have hl2 : ((ds.take j).foldl rStep (rLaps ds i)).length ≤ 1000000 := by
          have : 2 * ds.length * i ≤ 2 * 1000 * 100 := Nat.mul_le_mul (by omega) (by omega)
          omega
        generalize (ds.take j).foldl rStep (rLaps ds i) = R at step hl2 h2
        have go : ∀ R', R' = rStep R p → (∀ H3, Grow G H G H3 → H3 d = some (.dK (rDict R')) → ∃ (o1 o2 o3 : Option V), [some (.int (n : Int)), some (.ref a), some (.ref d), o4, some (.int p.1), some (.int p.2)] = [some (.int (n : Int)), some (.ref a), some (.ref d), o1, o2, o3] ∧ Grow G H G H3 ∧ H3 d = some (.dK (rDict ((ds.take (j + 1)).foldl rStep (rLaps ds i))))) :=
          fun R' e H3 g3 h3 => ⟨_, _, _, rfl, g3, by rw [step, ← e]; exact h3⟩
        refine ⟨_, rfl, _, rfl, d, _, rfl, DGet.k (k := Sum.inl p.1) h2, _, rfl, ?_⟩
        rw [rDict_isSome]
        have put : (p.1 ∈ R ∨ p.2 ∈ R) → addR (addR R p.1) p.2 = rStep R p := fun h => by
          unfold rStep
          rw [if_pos h]
        have store : (p.1 ∈ R ∨ p.2 ∈ R) → ∀ D : Ends, (D.nx = fun σ H' => ∃ (o1 o2 o3 : Option V), σ = [some (.int (n : Int)), some (.ref a), some (.ref d), o1, o2, o3] ∧ Grow G H G H' ∧ H' d = some (.dK (rDict ((ds.take (j + 1)).foldl rStep (rLaps ds i))))) →
            tSeq (sDPut (tVar 2) (tVar 4) (tC (.bl true))) (sDPut (tVar 2) (tVar 5) (tC (.bl true))) D [some (.int (n : Int)), some (.ref a), some (.ref d), o4, some (.int p.1), some (.int p.2)] H2 := fun h D eD => by
          refine ⟨_, rfl, _, rfl, d, _, rfl, DPut.k (k := Sum.inl p.1) h2 (by rw [rDict_length, sizeLine_eq]; omega), ?_⟩
          have l1 := addR_length R p.1
          refine ⟨_, rfl, _, rfl, d, _, rfl, DPut.k (k := Sum.inl p.2) upd_same (by rw [rDict_put, rDict_length, sizeLine_eq]; omega), ?_⟩
          rw [rDict_put, rDict_put, upd_upd, eD]
          exact go _ (put h) _ (g2.mut _ dG hd) upd_same
        by_cases c1 : p.1 ∈ R
        · rw [decide_eq_true c1]
          exact iteT (iteT (store (.inl c1) _ rfl))
        · rw [decide_eq_false c1]
          refine iteF ?_
          refine ⟨_, rfl, _, rfl, d, _, rfl, DGet.k (k := Sum.inl p.2) h2, _, rfl, ?_⟩
          rw [rDict_isSome]
          by_cases c2 : p.2 ∈ R
          · rw [decide_eq_true c2]
            exact iteT (store (.inr c2) _ rfl)
          · rw [decide_eq_false c2]
            refine iteF ?_
            refine go R ?_ H2 g2 h2
            unfold rStep
            rw [if_neg (fun z => z.elim c1 c2)]
      · rintro σ H2 ⟨o4, o5, o6, rfl, g2, h2⟩
        rw [paired_len hys, List.take_length] at h2
        exact ⟨_, _, _, rfl, g2, h2⟩
    · rintro σ H1 ⟨o1, o2, o3, rfl, g1, h1⟩
      refine ⟨_, rfl, d, _, rfl, h1, _, rfl, rfl, ?_⟩
      have e : decide (V.int ((rDict (rLaps ds (n : Int).toNat)).length : Int) = V.int (n : Int)) = reachedB n ds := by
        rw [rDict_length, dec_int]
        unfold reachedB
        simp only [Int.toNat_natCast]
        rw [Bool.eq_iff_iff, beq_iff_eq, beq_iff_eq]
        omega
      rw [e]
      exact k H1 g1
end
end CF

namespace CF
open PySem L2 PyProof.Rows
section
variable {P : Program} {w : World} {K : PySem.W.Frag} {mg : Str → Option Value} {base : Heap}
theorem sc_init : FnScope ["self", "places", "doors", "k", "one", "other"] ["self", "places", "doors"] (defScope s_init) := ⟨rfl, rfl, rfl, by decide +kernel, rfl, by decide +kernel, by decide +kernel⟩
theorem ok_init {f C CN : Addr} {fd : FuncData} (F : Fun K "__init__" "Floor.__init__" s_init f fd) (T : FlrC K mg C) (N : Exn K mg "NoFloor" CN) (mr : mg "range" = none) (ml : mg "len" = none) (mls : mg "list" = none) (mm : ∃ t, mg "MOST" = some (.int 6 t))
    (R : Cal P w K mg base 1 "all_reached" ["places", "doors"] spReached) : FnOk P w K mg base (L2N.CX P w) 2 f fd ["self", "places", "doors"] (spInit C CN) := by
  refine Fun_okN F sc_init (fun vs H Q E h => ?_) (fun cdv A outer s H vs Q E hr tk h => ?_)
  · obtain ⟨F, x, dx, n, v, ds, rfl, _⟩ := h
    rfl
  · obtain ⟨G, x, dx, n, v, ds, rfl, hG, Gx, hx, hds, hl, k, kE⟩ := h
    obtain ⟨a, ys, rfl, ha, hp⟩ := id hds
    obtain ⟨tm, mm⟩ := mm
    have hu0 := hr.units0
    refine ⟨_, pss_cons (ps_if (pt_not (pt_chain op_le op_le pe_int (pv 1) (pe_glob (v := .int 6) rfl mm ⟨_, rfl⟩))) (pss_one (ps_rs rfl tk N rfl)) pss_nil)
      (pss_cons (ps_for (passes_of rfl) rfl (pi_range1 rfl mr (pa_cons (pe_callB call_len_seq (by rfl) ml PySem.boot_len (pa_cons (pv 2) pa_nil)) pa_nil)) (pg_name (i := 3) sc_init.nd rfl (.inl rfl))
        (pss_cons (ps_asg (pe_ix ix_list (pv 2) (pv 3) (fun _ _ => rfl)) (pg_tup rfl (pgs_cons (pg_name (i := 4) sc_init.nd rfl (.inl rfl)) (pgs_cons (pg_name (i := 5) sc_init.nd rfl (.inl rfl)) pgs_nil))))
        (pss_one (ps_if (PW.pt (pw_or (pt_not (pt_chain4 ci_le ci_lt ci_lt pe_int (pv 4) (pv 5) (pv 1)))
          (pw_or1 (PW.pt (pw_and (pt_cmpR op_gt (pv 3) pe_int (nomark _)) (pw_and1 (pt_cmpR (op_geP hu0) (pe_ix ix_list (pv 2) (pe_op op_sub (pv 3) pe_int) (fun _ _ => rfl)) (pe_ix ix_list (pv 2) (pv 3) (fun _ _ => rfl)) (nomark _))))))))
          (pss_one (ps_rs rfl tk N rfl)) pss_nil))))
      (pss_cons (ps_if (pt_not (pt_val (pe_cl R hr rfl (pa_cons (pv 1) (pa_cons (pv 2) pa_nil))))) (pss_one (ps_rs rfl tk N rfl)) pss_nil)
      (pss_cons (ps_fld (pv 0) (pv 1) rfl) (pss_one (ps_fld (pv 0) (pe_callTy call_list_of (by rfl) mls PyProof.Rows.boot_list (pa_cons (pv 2) pa_nil)) rfl))))), ?_⟩
    have haH := hG _ _ ha
    -- if not 1 <= places <= MOST
    refine ⟨_, rfl, _, _, rfl, rfl, _, rfl, ?_⟩
    by_cases c1 : 1 ≤ n
    case neg =>
      rw [decide_eq_false c1]
      exact iteF ⟨_, rfl, iteT (kE (by unfold floorB; rw [decide_eq_false c1]; rfl) H (Grow.refl hG))⟩
    rw [decide_eq_true c1]
    refine iteT ⟨_, _, rfl, rfl, _, rfl, ?_⟩
    by_cases c2 : n ≤ 6
    case neg =>
      rw [decide_eq_false c2]
      exact iteT (kE (by unfold floorB; rw [decide_eq_false c2, Bool.and_false]; rfl) H (Grow.refl hG))
    rw [decide_eq_true c2]
    refine iteF ?_
    have hlen := paired_len hp
    -- for k in range(len(doors))
    refine ⟨_, rfl, a, ys, rfl, .inl (SqL.of haH), (ys.length : Int), rfl, by omega, by omega, for_range (lo := 0) (n := (ys.length : Int).toNat) (fun i σ H' => H' = H ∧ (∃ (o1 o2 o3 : Option V), σ = [some (.ref x), some (.int n), some (.ref a), o1, o2, o3]) ∧ ∀ j, j < i → goodAt n ds j = true)
      ⟨rfl, ⟨none, none, none, rfl⟩, fun j hj => absurd hj (Nat.not_lt_zero j)⟩ ?_ ?_⟩
    · rintro i σ H1 hi ⟨rfl, ⟨o1, o2, o3, rfl⟩, hgood⟩
      rw [Int.toNat_natCast] at hi
      rw [Int.zero_add]
      obtain ⟨y, hy⟩ : ∃ y, ys[i]? = some y := ⟨ys[i], List.getElem?_eq_getElem hi⟩
      obtain ⟨p, hpi, t, rfl, ht⟩ := paired_get' hp hy
      refine ⟨_, rfl, _, rfl, a, ys, _, _, rfl, rfl, SqL.of haH, atI_nat hy, t, _, rfl, SqT.of (hG _ _ ht), rfl, _, _, rfl, _, _, rfl, rfl, ?_⟩
      -- the test
      have bad : goodAt n ds i = false → floorB n ds = false := fun e => by
        unfold floorB
        have : goodB n ds = false := by
          unfold goodB
          rw [List.all_eq_false]
          exact ⟨i, List.mem_range.mpr (by omega), by rw [e]; decide⟩
        rw [this, Bool.and_false]
        rfl
      have ga : goodAt n ds i = (decide (0 ≤ p.1) && decide (p.1 < p.2) && decide (p.2 < n) && prevB ds p i) := by
        unfold goodAt
        rw [hpi]
      refine ⟨_, rfl, _, _, rfl, rfl, ?_⟩
      by_cases d1 : 0 ≤ p.1
      case neg =>
        exact iteDF d1 (iteT (iteT (kE (bad (by rw [ga, decide_eq_false d1]; rfl)) _ (Grow.refl hG))))
      refine iteDT d1 ⟨_, rfl, _, rfl, ?_⟩
      by_cases d2 : p.1 < p.2
      case neg =>
        exact iteDF d2 (iteT (iteT (kE (bad (by rw [ga, decide_eq_false d2, Bool.and_false]; rfl)) _ (Grow.refl hG))))
      refine iteDT d2 ⟨_, rfl, _, rfl, ?_⟩
      by_cases d3 : p.2 < n
      case neg =>
        exact iteNT d3 (iteT (kE (bad (by rw [ga, decide_eq_false d3, Bool.and_false]; rfl)) _ (Grow.refl hG)))
      refine iteNF d3 ⟨_, rfl, _, _, rfl, rfl, _, rfl, ?_⟩
      have on : goodAt n ds i = true → (H1 = H1 ∧ (∃ (u1 u2 u3 : Option V), [some (.ref x), some (.int n), some (.ref a), some (V.int (i : Int)), some (.int p.1), some (.int p.2)] = [some (.ref x), some (.int n), some (.ref a), u1, u2, u3]) ∧ ∀ j, j < i + 1 → goodAt n ds j = true) := fun e =>
        ⟨rfl, ⟨_, _, _, rfl⟩, fun j hj => by
          by_cases e1 : j = i
          · rw [e1]
            exact e
          · exact hgood j (by omega)⟩
      cases i with
      | zero =>
        exact iteDF (by decide) (iteF (on (by rw [ga, decide_eq_true d1, decide_eq_true d2, decide_eq_true d3]; rfl)))
      | succ j =>
        obtain ⟨y', hy'⟩ : ∃ y, ys[j]? = some y := ⟨ys[j], List.getElem?_eq_getElem (by omega)⟩
        obtain ⟨p', hpi', t', rfl, ht'⟩ := paired_get' hp hy'
        refine iteDT (by omega : (0 : Int) < ((j + 1 : Nat) : Int)) ⟨_, rfl, _, rfl, _, _, rfl, rfl, a, ys, _, _, rfl, rfl, SqL.of haH, at_of (j := j) (by omega) hy', _, rfl, _, rfl, a, ys, _, _, rfl, rfl, SqL.of haH, atI_nat hy, t', t, p', p, rfl, rfl, SqT.of (hG _ _ ht'), SqT.of (hG _ _ ht), _, rfl, ?_⟩
        have ga' : goodAt n ds (j + 1) = !geP p' p := by
          rw [ga, decide_eq_true d1, decide_eq_true d2, decide_eq_true d3]
          show (true && (match ds[j]? with
            | some c => !geP c p
            | none => false)) = _
          rw [hpi']
          rfl
        cases hge : geP p' p with
        | true => exact iteT (kE (bad (by rw [ga', hge]; rfl)) _ (Grow.refl hG))
        | false => exact iteF (on (by rw [ga', hge]; rfl))
    · rintro σ H1 ⟨rfl, ⟨o1, o2, o3, rfl⟩, hgood⟩
      rw [Int.toNat_natCast] at hgood
      have hgB : goodB n ds = true := by
        unfold goodB
        rw [List.all_eq_true]
        intro j hj
        exact hgood j (by rw [List.mem_range] at hj; omega)
      -- if not all_reached(places, doors)
      refine ⟨_, rfl, _, rfl, G, n.toNat, .ref a, ds, by rw [Int.toNat_of_nonneg (by omega)]; rfl, hG, hds, by omega, hl, fun H2 g2 => ⟨_, rfl, ?_⟩⟩
      cases hre : reachedB n.toNat ds with
      | false => exact iteT (kE (by unfold floorB; rw [hre, Bool.and_false]) _ g2)
      | true =>
        refine iteF ?_
        have hx2 := g2.keep _ _ hx
        have ha2 := g2.sub _ _ ha
        have nax : a ≠ x := fun z => by rw [z, Gx] at ha; cases ha
        refine ⟨_, rfl, _, rfl, x, C, dx, [], rfl, hx2, T.cl, T.nP, (by show 0 < 1000; decide), ?_⟩
        refine ⟨_, rfl, a, ys, rfl, .inl (SqL.of (by rw [upd_ne nax]; exact ha2)), fun d hd => ?_⟩
        have ndx : d ≠ x := fun z => by rw [z, upd_same] at hd; cases hd
        rw [upd_ne ndx] at hd
        refine ⟨_, rfl, x, C, dx, _, rfl, by rw [upd_ne ndx.symm]; exact upd_same, T.cl, T.nD, (by show 1 < 1000; decide), ?_⟩
        refine k (by unfold floorB; rw [hgB, hre, decide_eq_true c1, decide_eq_true c2]; rfl) d ys _ (g2.keep.free hd) (fun b o hb hbx => ?_) upd_same (by rw [upd_ne ndx]; exact upd_same) hp
        rw [upd_ne hbx, upd_ne (ne_of_none (g2.keep _ _ hb) hd), upd_ne hbx]
        exact g2.keep _ _ hb
end
end CF

namespace CF
open PySem L2 PyProof.Rows
section
variable {P : Program} {w : World} {K : PySem.W.Frag} {mg : Str → Option Value} {base : Heap}
abbrev NOt : List Str := ["e", "wanted", "sorts", "k"]
theorem sc_other : FnScope NOt ["e", "wanted"] (defScope s_law_other) := ⟨rfl, rfl, rfl, by decide +kernel, rfl, by decide +kernel, by decide +kernel⟩
theorem ok_other {f : Addr} {fd : FuncData} (F : Fun K "_law_other" "_law_other" s_law_other f fd) (mi : mg "isinstance" = none) (mr : mg "range" = none) (mv : mg "ValueError" = none) : FnE P w K mg base 1 f fd ["e", "wanted"] (spOther K mg) := by
  refine Fun_okE F sc_other (fun a D vs H Q E h => ?_) (fun cdv A outer s H vs Q p D hot hz hr h => ?_)
  · obtain ⟨j, i, rfl, _⟩ := h
    rfl
  · obtain ⟨jw, i, rfl, hj5, hi, O, k⟩ := h
    have nd := sc_other.nd
    obtain ⟨C0, m0, k0⟩ := O.c0
    obtain ⟨C1, m1, k1⟩ := O.c1
    obtain ⟨C2, m2, k2⟩ := O.c2
    obtain ⟨C3, m3, k3⟩ := O.c3
    obtain ⟨C4, m4, k4⟩ := O.c4
    have hu : (A.deeper (envOfC "_law_other" (defScope s_law_other) s.heap.objs.size f cdv)).units + 64 < cLine := by
      have := hr.un
      omega
    have hotX : L2H.HotC (L2H.cxH CX0 P w K mg base NOt "_law_other" (defScope s_law_other) f cdv A outer s H E0 p) := ⟨p, hot, List.mem_cons_self⟩
    have ha : ∃ vs, p.2.data = .fields vs := by
      obtain ⟨_, vs, h, _⟩ := hot
      exact ⟨vs, h⟩
    have ci : CallR (L2H.cxH CX0 P w K mg base NOt "_law_other" (defScope s_law_other) f cdv A outer s H E0 p) (.builtin "isinstance") (rIsE K D p.1) := call_isP O.exc List.mem_cons_self hz ha
    refine ⟨_, pss_cons (ps_set (i := 2) nd rfl (.inl rfl) (pe_lst (pa_cons (pe_callB ci (by rfl) mi boot_isinstance (pa_cons (pv 0) (pa_cons (pe_glob (v := .ref C0) rfl m0 rfl) pa_nil)))
        (pa_cons (pe_callB ci (by rfl) mi boot_isinstance (pa_cons (pv 0) (pa_cons (pe_glob (v := .ref C1) rfl m1 rfl) pa_nil)))
        (pa_cons (pe_callB ci (by rfl) mi boot_isinstance (pa_cons (pv 0) (pa_cons (pe_glob (v := .ref C2) rfl m2 rfl) pa_nil)))
        (pa_cons (pe_callB ci (by rfl) mi boot_isinstance (pa_cons (pv 0) (pa_cons (pe_glob (v := .ref C3) rfl m3 rfl) pa_nil))) pa_nil))))))
      (pss_cons (ps_expr (pe_bm PySem.F.plainAttrs_list PySem.F.slot_list_append PySem.F.type_list_append mt_append (pv 2) (pa_cons (pe_callB ci (by rfl) mi boot_isinstance (pa_cons (pv 0) (pa_cons (pe_glob (v := .ref C4) rfl m4 rfl) pa_nil))) pa_nil)))
      (pss_one (ps_ret (pe_or (pe_cmpR (op_neD hu) (pv 2)
          (pe_lcH (own := [("k", 3)]) (g := gName 3) (tt := tYes) hotX nd (L2H.pi_range1H rfl mr (pa_cons pe_int pa_nil)) (blkOk_by (N := NOt) (sc := defScope s_law_other) (by decide +kernel))
            (fun _ _ _ _ _ _ => pg_name (i := 3) nd rfl (Or.inl rfl)) (fun _ _ _ _ _ _ => pts_nil) (fun _ _ _ _ _ _ => pe_cmpR op_eq (pv 3) (pv 1) (nomark _))) (nomark _))
        (pe_one (pe_not (pe_callB ci (by rfl) mi boot_isinstance (pa_cons (pv 0) (pa_cons (pe_bltn (v := .ty "ValueError") (by rfl) mv boot_ValueError rfl) pa_nil))))))))), ?_⟩
    refine ⟨_, rfl, .ref C0, .ref C0, _, rfl, fun u h => h, k0, _, rfl, .ref C1, .ref C1, _, rfl, fun u h => h, k1, _, rfl, .ref C2, .ref C2, _, rfl, fun u h => h, k2, _, rfl, .ref C3, .ref C3, _, rfl, fun u h => h, k3, (by show 4 ≤ sizeLine; decide), fun l hl => ?_⟩
    refine ⟨_, rfl, .inl ⟨rfl, _, SqL.of upd_same⟩, _, rfl, .ref C4, .ref C4, _, rfl, fun u h => h, k4, l, _, _, rfl, rfl, upd_same, (by show 4 < sizeLine; decide), ?_⟩
    rw [upd_upd]
    have g1 : Grow H H H (upd H l (.lst ([.bl (decide (i = 0)), .bl (decide (i = 1)), .bl (decide (i = 2)), .bl (decide (i = 3))] ++ [.bl (decide (i = 4))]))) := (Grow.refl (Same.refl H)).hid _ hl
    have hl1 : (upd H l (.lst ([.bl (decide (i = 0)), .bl (decide (i = 1)), .bl (decide (i = 2)), .bl (decide (i = 3))] ++ [.bl (decide (i = 4))]))) l = some (.lst (([decide (i = 0), decide (i = 1), decide (i = 2), decide (i = 3), decide (i = 4)] : List Bool).map V.bl)) := upd_same
    generalize upd H l (.lst ([.bl (decide (i = 0)), .bl (decide (i = 1)), .bl (decide (i = 2)), .bl (decide (i = 3))] ++ [.bl (decide (i = 4))])) = H1 at g1 hl1
    refine ⟨_, rfl, 5, rfl, by decide, by decide, fun D2 hD2 => ?_⟩
    refine lcv_range (n := (5 : Int).toNat) RBl (fun (j : Nat) => some (decide (V.int (j : Int) = V.int (jw : Int)))) rbl_ext g1.sub hD2 (by decide) (fun j F' H' hj g hFD ho Q' q => ?_) fun F2 H2 ws g2 w1 w2 => ?_
    · rw [Int.zero_add]
      exact cs_yes ⟨_, rfl, _, rfl, rfl, q F' H' (some _) (Grow.refl g.sub) rfl⟩
    rw [made_some] at w2
    have ew := rbl_map w2
    have hlist : ∀ z : Nat, z < 5 → ((List.range (5 : Int).toNat).map fun (j : Nat) => decide (V.int (j : Int) = V.int (z : Int))) = [decide (z = 0), decide (z = 1), decide (z = 2), decide (z = 3), decide (z = 4)] := fun z hz => by
      have : z = 0 ∨ z = 1 ∨ z = 2 ∨ z = 3 ∨ z = 4 := by omega
      rcases this with rfl | rfl | rfl | rfl | rfl <;> rfl
    rw [hlist jw hj5] at ew
    rw [ew] at w1
    have d1 : Dp K H2 (.ref l) (.list (dBs [decide (i = 0), decide (i = 1), decide (i = 2), decide (i = 3), decide (i = 4)])) := .lst (SqL.of (g2.keep _ _ hl1)) (dBs_dpAll _)
    have d2 : Dp K H2 (.ref D2) (.list (dBs [decide (jw = 0), decide (jw = 1), decide (jw = 2), decide (jw = 3), decide (jw = 4)])) := .lst (SqL.of (g2.sub _ _ w1)) (dBs_dpAll _)
    refine ⟨_, _, d1, d2, dBs_shaped _, dBs_shaped _, _, rfl, ?_⟩
    rw [dBs_eqL]
    have hne : ([decide (i = 0), decide (i = 1), decide (i = 2), decide (i = 3), decide (i = 4)] = [decide (jw = 0), decide (jw = 1), decide (jw = 2), decide (jw = 3), decide (jw = 4)]) ↔ jw = i := by
      have h1 : i = 0 ∨ i = 1 ∨ i = 2 ∨ i = 3 ∨ i = 4 := by omega
      have h2 : jw = 0 ∨ jw = 1 ∨ jw = 2 ∨ jw = 3 ∨ jw = 4 := by omega
      rcases h1 with rfl | rfl | rfl | rfl | rfl <;> rcases h2 with rfl | rfl | rfl | rfl | rfl <;> decide
    have k := k H2 (g1.keep.trans g2.keep)
    by_cases c : jw = i
    case neg =>
      rw [decide_eq_true c] at k
      exact iteNT (fun z => c (hne.mp z)) k
    rw [decide_eq_false (fun z => z c)] at k
    refine iteNF (hne.mpr c) ?_
    refine ⟨_, rfl, .ty "ValueError", .type "ValueError", true, rfl, fun u h => h, O.ve, true, rfl, k⟩
end
end CF

namespace CF
open PySem L2 PyProof.Rows
section
variable {P : Program} {w : World} {K : PySem.W.Frag} {mg : Str → Option Value} {base : Heap}
theorem sc_next : FnScope ["seed"] ["seed"] (defScope s_law_next) := ⟨rfl, rfl, rfl, by decide +kernel, rfl, by decide +kernel, by decide +kernel⟩
theorem ok_next {f : Addr} {fd : FuncData} (F : Fun K "_law_next" "_law_next" s_law_next f fd) : FnOk P w K mg base CX0 1 f fd ["seed"] spNext := by
  refine F.ok sc_next (fun vs H Q E h => ?_) (fun cdv A outer s H vs Q E hr h => ?_)
  · obtain ⟨k, rfl, _⟩ := h
    rfl
  · obtain ⟨k, rfl, q⟩ := h
    -- DER next
    refine ⟨_, pss_one (ps_ret (pe_op op_mod (pe_op op_add (pe_op op_mul (pv 0) pe_int) pe_int) pe_int)), ?_⟩
    -- READ next
    exact ⟨_, rfl, _, _, rfl, rfl, .inr ⟨by decide, by decide⟩, _, _, rfl, rfl, _, _, rfl, rfl, (by show (0 : Int) < 2147483647; decide), q _⟩
abbrev NGo : List Str := ["places", "doors", "k", "name", "low", "high", "mark"]
theorem sc_good : FnScope NGo ["places", "doors"] (defScope s_law_good) := ⟨rfl, rfl, rfl, by decide +kernel, rfl, by decide +kernel, by decide +kernel⟩
theorem ok_good {f : Addr} {fd : FuncData} (F : Fun K "_law_good" "_law_good" s_law_good f fd) (mr : mg "range" = none) (ml : mg "len" = none) (mls : mg "list" = none) (mset : mg "set" = none) : FnOk P w K mg base CX0 1 f fd ["places", "doors"] spGood := by
  refine F.ok sc_good (fun vs H Q E h => ?_) (fun cdv A outer s H vs Q E hr h => ?_)
  · obtain ⟨F, n, v, ds, rfl, _⟩ := h
    rfl
  · obtain ⟨G, n, v, ds, rfl, hG, hds, hl, k⟩ := h
    obtain ⟨a, ys, rfl, ha, hp⟩ := id hds
    have hu0 := hr.units0
    have nd := sc_good.nd
    -- DER good
    refine ⟨_, pss_cons (ps_if (pt_not (pt_chain op_le op_le pe_int (pv 0) pe_int)) (pss_one (ps_ret pe_bl)) pss_nil)
      (pss_cons (ps_for PassesOwn.never rfl (pi_range1 rfl mr (pa_cons (pe_callB call_len_seq (by rfl) ml PySem.boot_len (pa_cons (pv 1) pa_nil)) pa_nil)) (pg_name (i := 2) nd rfl (.inl rfl))
      (pss_one (ps_if (PW.pt (pw_or (pt_not (pt_chain4 ci_le ci_lt ci_lt pe_int (pe_ix (r := rIxT K) ix_tup (pe_ix (r := rIxL K) ix_list (pv 1) (pv 2) (fun _ _ => rfl)) pe_int (fun _ _ => rfl)) (pe_ix (r := rIxT K) ix_tup (pe_ix (r := rIxL K) ix_list (pv 1) (pv 2) (fun _ _ => rfl)) pe_int (fun _ _ => rfl)) (pv 0))) (pw_or1 (PW.pt (pw_and (pt_cmpR op_gt (pv 2) pe_int (nomark _)) (pw_and1 (pt_cmpR (op_geP hu0) (pe_ix (r := rIxL K) ix_list (pv 1) (pe_op op_sub (pv 2) pe_int) (fun _ _ => rfl)) (pe_ix (r := rIxL K) ix_list (pv 1) (pv 2) (fun _ _ => rfl)) (nomark _)))))))) (pss_one (ps_ret pe_bl)) pss_nil)))
      (pss_cons (ps_set (i := 3) nd rfl (.inr rfl) (pe_listRg (te := tRg1 (tVar 0)) rfl rfl mls (prg_1 (ta := tVar 0) rfl mr (pv 0))))
      (pss_cons (ps_for PassesOwn.never rfl (pi_list (pv 1)) (pg_tup rfl (pgs_cons (pg_name (i := 4) nd rfl (.inr rfl)) (pgs_cons (pg_name (i := 5) nd rfl (.inr rfl)) pgs_nil))) (pss_one (ps_set (i := 3) nd rfl (.inr rfl) (pe_lc (own := [("mark", 6)]) (g := gName 6) (tt := tYes) rfl nd (pi_list (pv 3)) (blkOk_by (N := NGo) (sc := defScope s_law_good) (by decide +kernel)) (fun _ _ _ _ _ => pg_name (i := 6) nd rfl (Or.inl rfl)) (fun _ _ _ _ _ => pts_nil) (fun _ _ _ _ _ => (pe_ifExp (pt_cmpR op_eq (pv 6) (pe_ix (r := rIxL K) ix_list (pv 3) (pv 5) (fun _ _ => rfl)) (nomark _)) (pe_ix (r := rIxL K) ix_list (pv 3) (pv 4) (fun _ _ => rfl)) (pv 6)))))))
      (pss_one (ps_ret (pe_cmpR op_eq (pe_lenMany rfl ml rfl mset (pv 3)) pe_int (nomark _))))))), ?_⟩
    -- READ good
    have haH := hG _ _ ha
    have hlen := paired_len hp
    have kF : floorB n ds = false → ∀ H', Grow G H G H' → Q (.bl false) H' := fun e H' g => by
      have k := k G H' g
      rw [e] at k
      exact k
    -- if not 1 <= places <= 6
    refine ⟨_, rfl, _, _, rfl, rfl, _, rfl, ?_⟩
    by_cases c1 : 1 ≤ n
    case neg =>
      rw [decide_eq_false c1]
      exact iteF ⟨_, rfl, iteT (kF (by unfold floorB; rw [decide_eq_false c1]; rfl) H (Grow.refl hG))⟩
    rw [decide_eq_true c1]
    refine iteT ⟨_, _, rfl, rfl, _, rfl, ?_⟩
    by_cases c2 : n ≤ 6
    case neg =>
      rw [decide_eq_false c2]
      exact iteT (kF (by unfold floorB; rw [decide_eq_false c2, Bool.and_false]; rfl) H (Grow.refl hG))
    rw [decide_eq_true c2]
    refine iteF ?_
    -- for k in range(len(doors))
    refine ⟨_, rfl, a, ys, rfl, .inl (SqL.of haH), (ys.length : Int), rfl, by omega, by omega, for_range (lo := 0) (n := (ys.length : Int).toNat) (fun i σ H' => H' = H ∧ (∃ o2 : Option V, σ = [some (.int n), some (.ref a), o2, none, none, none, none]) ∧ ∀ j, j < i → goodAt n ds j = true)
      ⟨rfl, ⟨none, rfl⟩, fun j hj => absurd hj (Nat.not_lt_zero j)⟩ ?_ ?_⟩
    · rintro i σ H1 hi ⟨rfl, ⟨o2, rfl⟩, hgood⟩
      rw [Int.toNat_natCast] at hi
      rw [Int.zero_add]
      obtain ⟨y, hy⟩ : ∃ y, ys[i]? = some y := ⟨ys[i], List.getElem?_eq_getElem hi⟩
      obtain ⟨p, hpi, t, rfl, ht⟩ := paired_get' hp hy
      have ht' := hG _ _ ht
      have bad : goodAt n ds i = false → floorB n ds = false := fun e => by
        unfold floorB
        have : goodB n ds = false := by
          unfold goodB
          rw [List.all_eq_false]
          exact ⟨i, List.mem_range.mpr (by omega), by rw [e]; decide⟩
        rw [this, Bool.and_false]
        rfl
      have ga : goodAt n ds i = (decide (0 ≤ p.1) && decide (p.1 < p.2) && decide (p.2 < n) && prevB ds p i) := by
        unfold goodAt
        rw [hpi]
      refine ⟨_, rfl, _, rfl, a, ys, _, _, rfl, rfl, SqL.of haH, atI_nat hy, t, _, 0, .int p.1, rfl, rfl, SqT.of ht', rfl, _, _, rfl, rfl, ?_⟩
      by_cases d1 : 0 ≤ p.1
      case neg =>
        exact iteDF d1 (iteT (iteT (kF (bad (by rw [ga, decide_eq_false d1]; rfl)) _ (Grow.refl hG))))
      refine iteDT d1 ⟨_, rfl, _, rfl, a, ys, _, _, rfl, rfl, SqL.of haH, atI_nat hy, t, _, 1, .int p.2, rfl, rfl, SqT.of ht', rfl, _, rfl, ?_⟩
      by_cases d2 : p.1 < p.2
      case neg =>
        exact iteDF d2 (iteT (iteT (kF (bad (by rw [ga, decide_eq_false d2, Bool.and_false]; rfl)) _ (Grow.refl hG))))
      refine iteDT d2 ⟨_, rfl, _, rfl, ?_⟩
      by_cases d3 : p.2 < n
      case neg =>
        exact iteNT d3 (iteT (kF (bad (by rw [ga, decide_eq_false d3, Bool.and_false]; rfl)) _ (Grow.refl hG)))
      refine iteNF d3 ⟨_, rfl, _, _, rfl, rfl, _, rfl, ?_⟩
      have on : goodAt n ds i = true → (H1 = H1 ∧ (∃ u2 : Option V, [some (V.int n), some (.ref a), some (V.int (i : Int)), none, none, none, none] = [some (V.int n), some (.ref a), u2, none, none, none, none]) ∧ ∀ j, j < i + 1 → goodAt n ds j = true) := fun e =>
        ⟨rfl, ⟨_, rfl⟩, fun j hj => by
          by_cases e1 : j = i
          · rw [e1]
            exact e
          · exact hgood j (by omega)⟩
      cases i with
      | zero =>
        exact iteDF (by decide) (iteF (on (by rw [ga, decide_eq_true d1, decide_eq_true d2, decide_eq_true d3]; rfl)))
      | succ j =>
        obtain ⟨y', hy'⟩ : ∃ y, ys[j]? = some y := ⟨ys[j], List.getElem?_eq_getElem (by omega)⟩
        obtain ⟨p', hpi', t', rfl, ht2⟩ := paired_get' hp hy'
        refine iteDT (by omega : (0 : Int) < ((j + 1 : Nat) : Int)) ⟨_, rfl, _, rfl, _, _, rfl, rfl, a, ys, _, _, rfl, rfl, SqL.of haH, at_of (j := j) (by omega) hy', _, rfl, _, rfl, a, ys, _, _, rfl, rfl, SqL.of haH, atI_nat hy, t', t, p', p, rfl, rfl, SqT.of (hG _ _ ht2), SqT.of (hG _ _ ht), _, rfl, ?_⟩
        have ga' : goodAt n ds (j + 1) = !geP p' p := by
          rw [ga, decide_eq_true d1, decide_eq_true d2, decide_eq_true d3]
          show (true && (match ds[j]? with
            | some c => !geP c p
            | none => false)) = _
          rw [hpi']
          rfl
        cases hge : geP p' p with
        | true => exact iteT (kF (bad (by rw [ga', hge]; rfl)) _ (Grow.refl hG))
        | false => exact iteF (on (by rw [ga', hge]; rfl))
    · rintro σ H1 ⟨rfl, ⟨o2, rfl⟩, hgood⟩
      rw [Int.toNat_natCast] at hgood
      have hgB : goodB n ds = true := by
        unfold goodB
        rw [List.all_eq_true]
        intro j hj
        exact hgood j (by rw [List.mem_range] at hj; omega)
      obtain ⟨m, rfl⟩ : ∃ m : Nat, n = (m : Int) := ⟨n.toNat, by omega⟩
      have hval := good_val hgB
      -- name = list(range(places))
      refine ⟨_, rfl, (m : Int), rfl, .of_le (by decide) (by omega) (by decide) (by omega), fun nl hnl => ?_⟩
      rw [rgV_nv]
      have g0 : Grow G H1 (upd G nl (.lst ((List.range m).map nv))) (upd H1 nl (.lst ((List.range m).map nv))) := (Grow.refl hG).alloc _ hnl
      -- for low, high in doors
      refine ⟨_, rfl, a, rfl, ⟨ys, SqL.of (g0.keep _ _ haH)⟩, for_list (K := K) (a := a) (xs := ys) (fun j σ H' => ∃ (F : Hp) (nl : Addr) (o2 o4 o5 : Option V), σ = [some (nv m), some (.ref a), o2, some (.ref nl), o4, o5, none] ∧ Grow G H1 F H' ∧ F nl = some (.lst (((List.range m).map (gF (ds.take j))).map nv)))
        ⟨_, nl, _, _, _, rfl, g0, by rw [show gF (ds.take 0) = id from rfl, List.map_id]; exact upd_same⟩ (fun j σ H' _ ⟨_, _, _, _, _, _, g, _⟩ => SqL.of (g.keep _ _ haH)) ?_ ?_⟩
      · clear g0 hnl nl
        rintro j y σ H2 hj ⟨F2, nl, o2, o4, o5, rfl, g2, hnl⟩
        obtain ⟨p, hpj, t, rfl, ht⟩ := paired_get' hp hj
        obtain ⟨v1, v2, v3⟩ := hval p (List.mem_of_getElem? hpj)
        obtain ⟨lo, hlo⟩ : ∃ lo : Nat, p.1 = (lo : Int) := ⟨p.1.toNat, by omega⟩
        obtain ⟨hi, hhi⟩ : ∃ hi : Nat, p.2 = (hi : Int) := ⟨p.2.toNat, by omega⟩
        refine ⟨t, _, rfl, SqT.of (g2.sub _ _ (g2.ss _ _ ht)), rfl, _, _, rfl, _, _, rfl, rfl, ?_⟩
        rw [hlo, hhi]
        refine ⟨_, rfl, nl, rfl, ⟨_, SqL.of (g2.sub _ _ hnl)⟩, fun D hD => ?_⟩
        have nxt : gF (ds.take (j + 1)) = fun i => if gF (ds.take j) i = gF (ds.take j) hi then gF (ds.take j) lo else gF (ds.take j) i := by
          rw [take_snoc hpj, gF_snoc]
          unfold gStep
          rw [hlo, hhi, Int.toNat_natCast, Int.toNat_natCast]
        have at_ : ∀ q : Nat, q < m → ((((List.range m).map (gF (ds.take j))).map nv)[q]? : Option V) = some (nv (gF (ds.take j) q)) := fun q hq => by
          rw [List.getElem?_map, List.getElem?_map, List.getElem?_range hq]
          rfl
        refine lcv_list (xs := ((List.range m).map (gF (ds.take j))).map nv) RNat (fun (i : Nat) => some (gF (ds.take (j + 1)) i)) rnat_ext g2.sub (SqL.of hnl) hD (by rw [List.length_map, List.length_map, List.length_range, sizeLine_eq]; omega) (fun i y F' H' hi' g hFD ho Q' q' => ?_) fun F3 H3 ws g3 w1 w2 => ?_
        · obtain ⟨z, hz, rfl⟩ := getElem?_map_nv hi'
          rw [List.getElem?_map] at hz
          obtain ⟨i', hi2, rfl⟩ := Option.map_eq_some_iff.mp hz
          have him : i < m := by
            have := (List.getElem?_eq_some_iff.mp hi2).1
            rw [List.length_range] at this
            exact this
          rw [List.getElem?_range him] at hi2
          cases hi2
          refine cs_yes ⟨_, rfl, _, rfl, _, rfl, nl, _, _, nv (gF (ds.take j) hi), rfl, rfl, SqL.of (g.sub _ _ (g.ss _ _ hnl)), atI_nat (at_ hi (by omega)), rfl, _, rfl, ?_⟩
          by_cases c : nv (gF (ds.take j) i) = nv (gF (ds.take j) hi)
          · refine iteDT c ⟨_, rfl, _, rfl, nl, _, _, nv (gF (ds.take j) lo), rfl, rfl, SqL.of (g.sub _ _ (g.ss _ _ hnl)), atI_nat (at_ lo (by omega)), q' F' H' (some _) (Grow.refl g.sub) ?_⟩
            have c' : gF (ds.take j) i = gF (ds.take j) hi := by have := V.int.inj c; omega
            rw [nxt]
            show _ = nv (if _ then _ else _)
            rw [if_pos c']
          · refine iteDF c ⟨_, rfl, q' F' H' (some _) (Grow.refl g.sub) ?_⟩
            have c' : ¬ gF (ds.take j) i = gF (ds.take j) hi := fun e => c (by rw [e])
            rw [nxt]
            show _ = nv (if _ then _ else _)
            rw [if_neg c']
        rw [List.length_map, List.length_map, List.length_range, made_some] at w2
        have ew := rnat_map w2
        rw [ew] at w1
        exact ⟨F3, D, _, _, _, rfl, g2.trans g3, w1⟩
      · clear g0 hnl nl
        rintro σ H2 ⟨F2, nl, o2, o4, o5, rfl, g2, hnl⟩
        rw [hlen, List.take_length] at hnl
        refine ⟨_, rfl, nl, asI ((List.range m).map (gF ds)), rfl, SqL.of (by rw [asI_nv]; exact g2.sub _ _ hnl), by rw [asI_len, List.length_map, List.length_range]; omega, rfl, ?_⟩
        show Q (.bl (decide (V.int (manyF (asI ((List.range m).map (gF ds))) : Nat) = V.int 1))) H2
        rw [many_names (by omega)]
        have k := k F2 H2 g2
        rw [← lgood_floor] at k
        unfold lgood at k
        rw [decide_eq_true c1, decide_eq_true c2, hgB, Int.toNat_natCast] at k
        exact k
theorem sc_spoilt : FnScope ["doors", "how", "cell", "at", "low", "high", "far"] ["doors", "how", "cell"] (defScope s_law_spoilt) := ⟨rfl, rfl, rfl, by decide +kernel, rfl, by decide +kernel, by decide +kernel⟩
theorem ok_spoilt {f : Addr} {fd : FuncData} (F : Fun K "_law_spoilt" "_law_spoilt" s_law_spoilt f fd) (ml : mg "len" = none) : FnOk P w K mg base CX0 1 f fd ["doors", "how", "cell"] spSpoilt := by
  refine F.ok sc_spoilt (fun vs H Q E h => ?_) (fun cdv A outer s H vs Q E hr h => ?_)
  · obtain ⟨F, v, ds, k, c, rfl, _⟩ := h
    rfl
  · obtain ⟨G, v, ds, k, c, rfl, hG, hds, hpos, hl, q⟩ := h
    obtain ⟨a, ys, rfl, ha, hyl, hys⟩ := hds.cut
    have nd := sc_spoilt.nd
    -- DER spoilt
    refine ⟨_, pss_cons (ps_set (i := 3) nd rfl (.inl rfl) (pe_op op_mod (pv 2) (pe_callB call_len_seq (by rfl) ml PySem.boot_len (pa_cons (pv 0) pa_nil))))
      (pss_cons (ps_asg (pe_ix (r := rIxL K) ix_list (pv 0) (pv 3) (fun _ _ => rfl)) (pg_tup rfl (pgs_cons (pg_name (i := 4) nd rfl (.inl rfl)) (pgs_cons (pg_name (i := 5) nd rfl (.inl rfl)) pgs_nil))))
      (pss_cons (ps_set (i := 6) nd rfl (.inl rfl) (pe_ix (r := rIxL K) ix_list (pe_lst (pa_cons (pe_un un_neg pe_int) (pa_cons pe_int (pa_cons pe_int (pa_cons (pe_un un_neg pe_int) pa_nil))))) (pe_op op_mod (pe_op op_fdiv (pv 2) pe_int) pe_int) (fun _ _ => rfl)))
      (pss_cons (ps_if (pt_cmpR op_eq (pv 1) pe_int (nomark _)) (pss_one (ps_ret (pe_op op_cat (pe_slice sl_list (pv 0) po_none (po_some (pv 3))) (pe_slice sl_list (pv 0) (po_some (pe_op op_add (pv 3) pe_int)) po_none)))) pss_nil)
      (pss_cons (ps_if (pt_cmpR op_eq (pv 1) pe_int (nomark _)) (pss_one (ps_ret (pe_op op_cat (pe_op op_cat (pe_slice sl_list (pv 0) po_none (po_some (pv 3))) (pe_lst (pa_cons (pe_ix (r := rIxL K) ix_list (pv 0) (pv 3) (fun _ _ => rfl)) pa_nil))) (pe_slice sl_list (pv 0) (po_some (pv 3)) po_none)))) pss_nil)
      (pss_cons (ps_if (pt_cmpR op_eq (pv 1) pe_int (nomark _)) (pss_one (ps_ret (pe_op op_cat (pe_op op_cat (pe_slice sl_list (pv 0) po_none (po_some (pv 3))) (pe_lst (pa_cons (pe_tup (pa_cons (pv 5) (pa_cons (pv 4) pa_nil))) pa_nil))) (pe_slice sl_list (pv 0) (po_some (pe_op op_add (pv 3) pe_int)) po_none)))) pss_nil)
      (pss_cons (ps_if (pt_cmpR op_eq (pv 1) pe_int (nomark _)) (pss_one (ps_ret (pe_op op_cat (pe_op op_cat (pe_slice sl_list (pv 0) po_none (po_some (pv 3))) (pe_lst (pa_cons (pe_tup (pa_cons (pv 4) (pa_cons (pv 4) pa_nil))) pa_nil))) (pe_slice sl_list (pv 0) (po_some (pv 3)) po_none)))) pss_nil)
      (pss_cons (ps_if (pt_cmpR op_eq (pv 1) pe_int (nomark _)) (pss_one (ps_ret (pe_op op_cat (pe_op op_cat (pe_slice sl_list (pv 0) po_none (po_some (pv 3))) (pe_lst (pa_cons (pe_ix (r := rIxL K) ix_list (pe_lst (pa_cons (pe_tup (pa_cons (pv 6) (pa_cons (pv 5) pa_nil))) (pa_cons (pe_tup (pa_cons (pv 4) (pa_cons (pv 6) pa_nil))) pa_nil))) (pe_op op_mod (pe_op op_fdiv (pv 2) pe_int) pe_int) (fun _ _ => rfl)) pa_nil))) (pe_slice sl_list (pv 0) (po_some (pe_op op_add (pv 3) pe_int)) po_none)))) pss_nil)
      (pss_one (ps_ret (pe_op op_cat (pe_op op_cat (pe_slice sl_list (pv 0) po_none (po_some (pv 3))) (pe_slice sl_list (pv 0) (po_some (pe_op op_add (pv 3) pe_int)) po_none)) (pe_lst (pa_cons (pe_ix (r := rIxL K) ix_list (pv 0) (pv 3) (fun _ _ => rfl)) pa_nil)))))))))))), ?_⟩
    -- READ spoilt
    have haH := hG _ _ ha
    have pcA : Pc G a ds.length := ⟨ys, ha, Nat.le_of_eq hyl, hys⟩
    have fin : ∀ (F2 H2 : Hp) (l : Addr) (n : Nat), Grow G H F2 H2 → Pc F2 l n → n ≤ 1000 → Q (.ref l) H2 := fun F2 H2 l n g h hn => by
      obtain ⟨ds2, h1, h2⟩ := h.doors
      exact q F2 H2 _ ds2 g h1 (by omega)
    -- at
    obtain ⟨m, hm, hm'⟩ := emod_nat c (n := ys.length) (by omega)
    refine ⟨_, rfl, _, rfl, a, ys, rfl, .inl (SqL.of haH), _, _, rfl, rfl, (by show (0 : Int) < (ys.length : Int); omega), ?_⟩
    refine (show gName 3 (V.int (c % (ys.length : Int))) _ _ _ from ?_)
    rw [hm]
    have hy : ys[m]? = some ys[m] := List.getElem?_eq_getElem hm'
    obtain ⟨p, t, ey, ht⟩ := hys _ (List.getElem_mem hm')
    rw [ey] at hy
    -- low, high
    refine ⟨_, rfl, _, rfl, a, ys, _, _, rfl, rfl, SqL.of haH, atI_nat hy, t, _, rfl, SqT.of (hG _ _ ht), rfl, _, _, rfl, _, _, rfl, rfl, ?_⟩
    -- far
    obtain ⟨m2, hm2, hm2'⟩ := emod_nat (c / 64) (n := 4) (by omega)
    have hm2 : c / 64 % 4 = (m2 : Int) := hm2
    obtain ⟨z, hz⟩ : ∃ z : Int, ([V.int (-1), V.int 6, V.int 100, V.int (-100)] : List V)[m2]? = some (.int z) := by
      have : m2 = 0 ∨ m2 = 1 ∨ m2 = 2 ∨ m2 = 3 := by omega
      rcases this with rfl | rfl | rfl | rfl
      · exact ⟨-1, rfl⟩
      · exact ⟨6, rfl⟩
      · exact ⟨100, rfl⟩
      · exact ⟨-100, rfl⟩
    refine ⟨1, rfl, 100, rfl, (by show 4 ≤ sizeLine; decide), fun l1 hl1 => ?_⟩
    have g0 : Grow G H G (upd H l1 (.lst [V.int (-1), V.int 6, V.int 100, V.int (-100)])) := (Grow.refl hG).hid _ hl1
    refine ⟨_, rfl, _, _, rfl, rfl, (by show (0 : Int) < 64 ∧ (64 : Int) < 1073741824; decide), _, _, rfl, rfl, (by show (0 : Int) < 4; decide), l1, _, _, .int z, rfl, rfl, SqL.of upd_same, ?_, ?_⟩
    · show atI _ (c / 64 % 4) = _
      rw [hm2]
      exact atI_nat hz
    generalize upd H l1 (.lst [V.int (-1), V.int 6, V.int 100, V.int (-100)]) = H1 at g0
    have here : ∀ (F2 H2 : Hp), Grow G H F2 H2 → Same G F2 → SqL K H2 a ys ∧ ∃ z, PairT F2 (.ref t) z := fun F2 H2 g s => ⟨SqL.of (g.sub _ _ (s _ _ ha)), p, t, rfl, s _ _ ht⟩
    have new2 : ∀ (F2 H2 : Hp) (i j : Int) (t2 : Addr), Grow G H F2 H2 → H2 t2 = none → Grow G H (upd F2 t2 (.tup [.int i, .int j])) (upd H2 t2 (.tup [.int i, .int j])) ∧ Same F2 (upd F2 t2 (.tup [.int i, .int j])) ∧ ∃ z, PairT (upd F2 t2 (.tup [.int i, .int j])) (.ref t2) z := fun F2 H2 i j t2 g h =>
      ⟨g.alloc _ h, same_new _ (g.sub.free h), (i, j), t2, rfl, upd_same⟩
    -- 1
    refine ⟨_, rfl, rfl, _, rfl, ?_⟩
    by_cases c1 : V.int k = V.int 1
    · refine iteDT c1 ?_
      refine ⟨_, rfl, _, rfl, _, rfl, Pc.slice g0 pcA fun F2 H2 p2 g2 s2 pc2 => ?_⟩
      refine ⟨_, rfl, _, rfl, _, _, rfl, rfl, _, rfl, ?_⟩
      try unfold tNoPart
      refine Pc.slice g2 (pcA.ext s2) fun F3 H3 p3 g3 s3 pc3 => ?_
      exact Pc.cat g3 (pc2.ext s3) pc3 (by omega) fun F4 H4 l g4 _ pc4 => fin _ _ _ _ g4 pc4 (by omega)
    refine iteDF c1 ⟨_, rfl, rfl, _, rfl, ?_⟩
    -- 2
    by_cases c2 : V.int k = V.int 2
    · refine iteDT c2 ?_
      refine ⟨_, rfl, _, rfl, _, rfl, Pc.slice g0 pcA fun F2 H2 p2 g2 s2 pc2 => ?_⟩
      obtain ⟨h1, h2⟩ := here F2 H2 g2 s2
      refine ⟨_, rfl, _, rfl, a, ys, _, _, rfl, rfl, h1, atI_nat hy, (by show 1 ≤ sizeLine; decide), fun p3 hp3 => ?_⟩
      obtain ⟨g3, s3, pc3⟩ := Pc.one1 g2 h2 hp3
      refine Pc.cat g3 (pc2.ext s3) pc3 (by omega) fun F4 H4 l4 g4 s4 pc4 => ?_
      refine ⟨_, rfl, _, rfl, _, rfl, ?_⟩
      try unfold tNoPart
      refine Pc.slice g4 (pcA.ext (s2.trans (s3.trans s4))) fun F5 H5 p5 g5 s5 pc5 => ?_
      exact Pc.cat g5 (pc4.ext s5) pc5 (by omega) fun F6 H6 l g6 _ pc6 => fin _ _ _ _ g6 pc6 (by omega)
    refine iteDF c2 ⟨_, rfl, rfl, _, rfl, ?_⟩
    -- 3
    by_cases c3 : V.int k = V.int 3
    · refine iteDT c3 ?_
      refine ⟨_, rfl, _, rfl, _, rfl, Pc.slice g0 pcA fun F2 H2 p2 g2 s2 pc2 => ?_⟩
      refine ⟨_, rfl, _, rfl, (by show 2 ≤ sizeLine; decide), fun t2 ht2 => ?_⟩
      obtain ⟨gn, sn, hn⟩ := new2 F2 H2 p.2 p.1 t2 g2 ht2
      refine ⟨(by show 1 ≤ sizeLine; decide), fun p3 hp3 => ?_⟩
      obtain ⟨g3, s3, pc3⟩ := Pc.one1 gn hn hp3
      refine Pc.cat g3 (pc2.ext (sn.trans s3)) pc3 (by omega) fun F4 H4 l4 g4 s4 pc4 => ?_
      refine ⟨_, rfl, _, rfl, _, _, rfl, rfl, _, rfl, ?_⟩
      try unfold tNoPart
      refine Pc.slice g4 (pcA.ext ((s2.trans sn).trans (s3.trans s4))) fun F5 H5 p5 g5 s5 pc5 => ?_
      exact Pc.cat g5 (pc4.ext s5) pc5 (by omega) fun F6 H6 l g6 _ pc6 => fin _ _ _ _ g6 pc6 (by omega)
    refine iteDF c3 ⟨_, rfl, rfl, _, rfl, ?_⟩
    -- 4
    by_cases c4 : V.int k = V.int 4
    · refine iteDT c4 ?_
      refine ⟨_, rfl, _, rfl, _, rfl, Pc.slice g0 pcA fun F2 H2 p2 g2 s2 pc2 => ?_⟩
      refine ⟨_, rfl, _, rfl, (by show 2 ≤ sizeLine; decide), fun t2 ht2 => ?_⟩
      obtain ⟨gn, sn, hn⟩ := new2 F2 H2 p.1 p.1 t2 g2 ht2
      refine ⟨(by show 1 ≤ sizeLine; decide), fun p3 hp3 => ?_⟩
      obtain ⟨g3, s3, pc3⟩ := Pc.one1 gn hn hp3
      refine Pc.cat g3 (pc2.ext (sn.trans s3)) pc3 (by omega) fun F4 H4 l4 g4 s4 pc4 => ?_
      refine ⟨_, rfl, _, rfl, _, rfl, ?_⟩
      try unfold tNoPart
      refine Pc.slice g4 (pcA.ext ((s2.trans sn).trans (s3.trans s4))) fun F5 H5 p5 g5 s5 pc5 => ?_
      exact Pc.cat g5 (pc4.ext s5) pc5 (by omega) fun F6 H6 l g6 _ pc6 => fin _ _ _ _ g6 pc6 (by omega)
    refine iteDF c4 ⟨_, rfl, rfl, _, rfl, ?_⟩
    -- 5
    by_cases c5 : V.int k = V.int 5
    · refine iteDT c5 ?_
      refine ⟨_, rfl, _, rfl, _, rfl, Pc.slice g0 pcA fun F2 H2 p2 g2 s2 pc2 => ?_⟩
      refine ⟨_, rfl, _, rfl, (by show 2 ≤ sizeLine; decide), fun t2 ht2 => ?_⟩
      obtain ⟨gn, sn, hn⟩ := new2 F2 H2 z p.2 t2 g2 ht2
      refine ⟨_, rfl, _, rfl, (by show 2 ≤ sizeLine; decide), fun t3 ht3 => ?_⟩
      obtain ⟨gn3, sn3, hn3⟩ := new2 _ _ p.1 z t3 gn ht3
      refine ⟨(by show 2 ≤ sizeLine; decide), fun l6 hl6 => ?_⟩
      have g6 := gn3.hid (.lst [.ref t2, .ref t3]) hl6
      obtain ⟨m3, hm3, hm3'⟩ := emod_nat (c / 256) (n := 2) (by omega)
      have hm3 : c / 256 % 2 = (m3 : Int) := hm3
      obtain ⟨t5, ht5, hn5⟩ : ∃ t5 : Addr, ([V.ref t2, V.ref t3] : List V)[m3]? = some (.ref t5) ∧ ∃ w, PairT (upd (upd F2 t2 (.tup [.int z, .int p.2])) t3 (.tup [.int p.1, .int z])) (.ref t5) w := by
        have : m3 = 0 ∨ m3 = 1 := by omega
        rcases this with rfl | rfl
        · obtain ⟨w, hw⟩ := hn
          exact ⟨t2, rfl, w, hw.ext sn3⟩
        · exact ⟨t3, rfl, hn3⟩
      refine ⟨_, rfl, _, _, rfl, rfl, (by show (0 : Int) < 256 ∧ (256 : Int) < 1073741824; decide), _, _, rfl, rfl, (by show (0 : Int) < 2; decide), l6, _, _, .ref t5, rfl, rfl, SqL.of upd_same, ?_, ?_⟩
      · show atI _ (c / 256 % 2) = _
        rw [hm3]
        exact atI_nat ht5
      refine ⟨(by show 1 ≤ sizeLine; decide), fun p3 hp3 => ?_⟩
      obtain ⟨g3, s3, pc3⟩ := Pc.one1 g6 hn5 hp3
      refine Pc.cat g3 (pc2.ext ((sn.trans sn3).trans s3)) pc3 (by omega) fun F4 H4 l4 g4 s4 pc4 => ?_
      refine ⟨_, rfl, _, rfl, _, _, rfl, rfl, _, rfl, ?_⟩
      try unfold tNoPart
      refine Pc.slice g4 (pcA.ext ((s2.trans (sn.trans sn3)).trans (s3.trans s4))) fun F5 H5 p5 g5 s5 pc5 => ?_
      exact Pc.cat g5 (pc4.ext s5) pc5 (by omega) fun F6 H6 l g6 _ pc6 => fin _ _ _ _ g6 pc6 (by omega)
    refine iteDF c5 ?_
    refine ⟨_, rfl, _, rfl, _, rfl, Pc.slice g0 pcA fun F2 H2 p2 g2 s2 pc2 => ?_⟩
    refine ⟨_, rfl, _, rfl, _, _, rfl, rfl, _, rfl, ?_⟩
    try unfold tNoPart
    refine Pc.slice g2 (pcA.ext s2) fun F3 H3 p3 g3 s3 pc3 => ?_
    refine Pc.cat g3 (pc2.ext s3) pc3 (by omega) fun F4 H4 l4 g4 s4 pc4 => ?_
    obtain ⟨h1, h2⟩ := here F4 H4 g4 (s2.trans (s3.trans s4))
    refine ⟨_, rfl, _, rfl, a, ys, _, _, rfl, rfl, h1, atI_nat hy, (by show 1 ≤ sizeLine; decide), fun p5 hp5 => ?_⟩
    obtain ⟨g5, s5, pc5⟩ := Pc.one1 g4 h2 hp5
    exact Pc.cat g5 (pc4.ext s5) pc5 (by omega) fun F6 H6 l g6 _ pc6 => fin _ _ _ _ g6 pc6 (by omega)
theorem sc_told : FnScope ["places", "doors", "e"] ["places", "doors"] (defScope s_law_told) := ⟨rfl, rfl, rfl, by decide +kernel, rfl, by decide +kernel, by decide +kernel⟩
abbrev tTold (K : PySem.W.Frag) (mg : Str → Option Value) : Addr → Value → Option Addr → TS := fun a cls d D0 σ H => ∃ D, cls = .ref D ∧ d = none ∧
  tRet (tTup (tCons (tOp (rI0 fun i j => .int (i + j)) (tC (.int 1)) (tCB (fun xs H Q => (∃ i, xs = [.int i] ∧ Q (.int i) H) ∨ ∃ k, xs = [.bl k] ∧ Q (.int (if k then 1 else 0)) H) (tCons (tCall (spOther K mg a D) [] E0 (tCons (tVar 2) (tCons (tC (.int 0)) tNil))) tNil))) (tCons (tC .non) tNil))) D0 σ H
theorem ok_told {f C CN : Addr} {fd : FuncData} (F : Fun K "_law_told" "_law_told" s_law_told f fd) (T : FlrC K mg C) (M : MkF P w K mg base C CN) (mint : mg "int" = none)
    (O : CalE P w K mg base 1 "_law_other" ["e", "wanted"] (spOther K mg)) (R : Rfs K mg "NoFloor" CN 0) : FnOk P w K mg base CX0 4 f fd ["places", "doors"] (spTold1 C) := by
  refine F.ok sc_told (fun vs H Q E h => ?_) (fun cdv A outer s H vs Q E hr h => ?_)
  · obtain ⟨F, n, v, ds, rfl, _⟩ := h
    rfl
  · obtain ⟨G, n, v, ds, rfl, hG, hds, hl, k1, k0⟩ := h
    have nd := sc_told.nd
    obtain ⟨CE, hce, hex⟩ := R.ex
    refine ⟨_, pss_one (L2N.ps_try_as (i := 2) (tb := fun W => tRet (tTup (tCons (tC (.int 0)) (tCons (tMakeS C (spInit C CN) (WE W) (tCons (tVar 0) (tCons (tVar 1) tNil))) tNil))))
        (ts := tTold K mg) (Wout := fun _ _ _ _ => False) rfl rfl nd rfl rfl ⟨rfl, by decide, .inl hce⟩ takesN0
        (fun W pn xe tk _ => pss_one (ps_ret (pe_tup (pa_cons pe_int (pa_cons (pe_mkFS M T.g hr rfl tk (pa_cons (pv 0) (pa_cons (pv 1) pa_nil))) pa_nil)))))
        (fun a oe cls d pn hz hf => pss_only fun D e1 e2 => pss_one (ps_ret (pe_tup (pa_cons (pe_op op_add pe_int (pe_callTy call_int1 (by rfl) mint PyProof.Rows.boot_int (pa_cons
            (pe_clE (p := (a, oe)) (D := D) (j := 3) O ⟨hr.dp, hr.un⟩ (hot_suite hz hf) List.mem_cons_self (by subst e1 e2; exact hz.zc) rfl (pa_cons (pv 2) (pa_cons pe_int pa_nil))) pa_nil))) (pa_cons pe_non pa_nil)))))), ?_⟩
    -- READ told
    have s1 : ∀ x dx, H x = none → H dx = none → Same H (upd (upd H dx (.own x)) x (.ins C dx [])) := fun x dx hx hdx b o e => by
      rw [upd_ne (ne_of_none e hx), upd_ne (ne_of_none e hdx)]
      exact e
    refine ⟨_, rfl, _, rfl, fun x dx hx hdx ne => ?_⟩
    refine ⟨G, x, dx, n, v, ds, rfl, hG.trans (s1 x dx hx hdx), hG.free hx, upd_same, hds, hl, fun fl d ys H' hd kp hx' hd' hp => ⟨rfl, (by show 2 ≤ sizeLine; decide), fun t ht => ?_⟩, fun fl H1 g => ?_⟩
    · obtain ⟨ndx, hd1, s2, g2⟩ := mk_grow (Grow.refl hG) hx hdx hd kp hx' hd'
      have s3 := same_new (.tup [.int 0, .ref x]) (g2.sub.free ht)
      refine k1 fl _ _ t x dx d ys (g2.alloc (.tup [.int 0, .ref x]) ht) upd_same (s3 _ _ upd_same) (s3 _ _ ?_) (paired_ext (fun _ _ h => h.ext (s2.trans s3)) hp) hx hd1
      rw [upd_ne ndx]
      exact upd_same
    · refine ⟨true, hex, fun _ b hb => ⟨CN, rfl, rfl, _, rfl, 0, 0, rfl, by decide, by decide, R.oth, fun H4 s4 => .inr ⟨_, rfl, _, _, rfl, rfl, (by show 2 ≤ sizeLine; decide), fun t ht => ?_⟩⟩, fun z => nomatch z⟩
      have g4 : Grow G H G H4 := ⟨Same.refl _, g.sub.trans s4, ((s1 x dx hx hdx).trans g.keep).trans s4, fun _ _ e => .inl e⟩
      exact k0 fl _ _ t (g4.alloc (.tup [nv 1, .non]) ht) upd_same
abbrev NL : List Str := ["script", "places", "doors", "cell", "how", "handed", "found"]
theorem sc_law : FnScope NL ["script"] (defScope s_law) := ⟨rfl, rfl, rfl, by decide +kernel, rfl, by decide +kernel, by decide +kernel⟩
theorem ok_law {f C : Addr} {fd : FuncData} (F : Fun K "law" "law" s_law f fd) (T : FlrC K mg C) (mls : mg "list" = none) (ml : mg "len" = none)
    (CE : Cal P w K mg base 1 "_law_cell_at" ["script", "k"] (spCell K)) (FL : Cal P w K mg base 2 "_law_floor_by" ["script", "most"] (spLFloor K)) (NX : Cal P w K mg base 1 "_law_next" ["seed"] spNext) (SP : Cal P w K mg base 1 "_law_spoilt" ["doors", "how", "cell"] spSpoilt)
    (TO : Cal P w K mg base 4 "_law_told" ["places", "doors"] (spTold1 C)) (GO : Cal P w K mg base 1 "_law_good" ["places", "doors"] spGood) : FnOk P w K mg base CX0 5 f fd ["script"] (spLaw K) := by
  refine F.ok sc_law (fun vs H Q E h => ?_) (fun cdv A outer s H vs Q E hr h => ?_)
  · obtain ⟨a, ns, rfl, _⟩ := h
    rfl
  · obtain ⟨a, sc, rfl, hS, hlen, k⟩ := h
    have nd := sc_law.nd
    have hu := hr.units
    -- DER law
    refine ⟨_, pss_cons (ps_asg (pe_cl FL hr rfl (pa_cons (pv 0) (pa_cons pe_int pa_nil))) (pg_tup rfl (pgs_cons (pg_name (i := 1) nd rfl (.inl rfl)) (pgs_cons (pg_name (i := 2) nd rfl (.inl rfl)) pgs_nil))))
      (pss_cons (ps_set (i := 3) nd rfl (.inl rfl) (pe_cl NX hr rfl (pa_cons (pe_cl CE hr rfl (pa_cons (pv 0) (pa_cons pe_int pa_nil))) pa_nil)))
      (pss_cons (ps_set (i := 4) nd rfl (.inl rfl) (pe_op op_mod (pe_cl CE hr rfl (pa_cons (pv 0) (pa_cons pe_int pa_nil))) pe_int))
      (pss_cons (ps_cut (ps_if (PW.pt (pw_and (pt_chain op_le op_le pe_int (pv 4) pe_int) (pw_and1 (pt_cmpR op_gt (pe_callB call_len_seq (by rfl) ml PySem.boot_len (pa_cons (pv 2) pa_nil)) pe_int (nomark _))))) (pss_one (ps_set (i := 2) nd rfl (.inl rfl) (pe_cl SP hr rfl (pa_cons (pv 2) (pa_cons (pv 4) (pa_cons (pv 3) pa_nil)))))) pss_nil))
      (pss_cons (ps_cut (ps_if (PW.pt (pw_or (pt_cmpR op_eq (pv 4) pe_int (nomark _)) (pw_or1 (pt_cmpR op_eq (pv 4) pe_int (nomark _))))) (pss_one (ps_set (i := 1) nd rfl (.inl rfl) (pe_ix (r := rIxL K) ix_list (pe_lst (pa_cons (pe_op op_add (pv 1) pe_int) (pa_cons (pe_op op_sub (pv 1) pe_int) (pa_cons pe_int (pa_cons (pe_un un_neg pe_int) pa_nil))))) (pe_op op_mod (pv 3) pe_int) (fun _ _ => rfl)))) pss_nil))
      (pss_cons (ps_set (i := 5) nd rfl (.inl rfl) (pe_callTy call_list_of (by rfl) mls PyProof.Rows.boot_list (pa_cons (pv 2) pa_nil)))
      (pss_cons (ps_set (i := 6) nd rfl (.inl rfl) (pe_cl TO hr rfl (pa_cons (pv 1) (pa_cons (pv 5) pa_nil))))
      (pss_cons (ps_if (pt_cmpR (op_neD hu) (pv 5) (pv 2) (nomark _)) (pss_one (ps_ret pe_bl)) pss_nil)
      (pss_cons (ps_if (pt_not (pt_val (pe_cl GO hr rfl (pa_cons (pv 1) (pa_cons (pv 2) pa_nil))))) (pss_one (ps_ret (pe_cmpR op_eq (pe_ix (r := rIxT K) ix_tup (pv 6) pe_int (fun _ _ => rfl)) pe_int (nomark _)))) pss_nil)
      (pss_cons (ps_if (pt_cmpR op_ne (pe_ix (r := rIxT K) ix_tup (pv 6) pe_int (fun _ _ => rfl)) pe_int (nomark _)) (pss_one (ps_ret pe_bl)) pss_nil)
      (pss_cons (ps_expr (pe_bm PySem.F.plainAttrs_list PySem.F.slot_list_append PySem.F.type_list_append mt_append (pv 5) (pa_cons (pe_tup (pa_cons pe_int (pa_cons pe_int pa_nil))) pa_nil)))
      (pss_one (ps_ret (pe_and (pe_cmpR op_eq (pe_fld (pe_ix (r := rIxT K) ix_tup (pv 6) pe_int (fun _ _ => rfl)) rfl) (pv 1) (nomark _)) (pe_one (pe_cmpR (op_eqD hu) (pe_fld (pe_ix (r := rIxT K) ix_tup (pv 6) pe_int (fun _ _ => rfl)) rfl) (pv 2) (nomark _)))))))))))))))), ?_⟩
    -- READ law
    have hsc : ScrAt K H a sc := ⟨hS, by omega⟩
    refine ⟨_, rfl, H, a, sc, 6, rfl, Same.refl H, hsc, by omega, by omega, fun F1 H1 n0 ds0 t l0 g1 fl hnm ht hpl => ?_⟩
    refine ⟨t, _, rfl, SqT.of (g1.sub _ _ ht), rfl, _, _, rfl, _, _, rfl, rfl, ?_⟩
    have hl0 := fl.len
    clear ht fl hnm
    -- cell, how
    refine ⟨_, rfl, a, sc, 24, rfl, (hsc.ext g1.ss).ext g1.sub, by decide, _, rfl, fun z => ?_⟩
    refine ⟨_, rfl, a, sc, 25, rfl, (hsc.ext g1.ss).ext g1.sub, by decide, _, _, rfl, rfl, (by show (0 : Int) < 12; decide), ?_⟩
    obtain ⟨how, hhow⟩ : ∃ h, h = cellF sc 25 % 12 := ⟨_, rfl⟩
    refine (show gName 4 (V.int (cellF sc 25 % 12)) _ _ _ from ?_)
    rw [← hhow]
    clear hhow
    -- spoilt doors
    refine ⟨fun σ H' => ∃ (F : Hp) (v2 : V) (ds : List (Int × Int)), σ = [some (.ref a), some (nv n0), some v2, some (.int z), some (.int how), none, none] ∧ Grow H H F H' ∧ PairL F v2 ds ∧ ds.length ≤ 1000, ?_, ?_⟩
    · have stay : ∃ (F : Hp) (v2 : V) (ds : List (Int × Int)), [some (V.ref a), some (nv n0), some l0, some (.int z), some (.int how), none, none] = [some (.ref a), some (nv n0), some v2, some (.int z), some (.int how), none, none] ∧ Grow H H F H1 ∧ PairL F v2 ds ∧ ds.length ≤ 1000 := ⟨F1, l0, ds0, rfl, g1, hpl, by omega⟩
      refine ⟨_, rfl, _, _, rfl, rfl, _, rfl, ?_⟩
      by_cases c1 : 1 ≤ how
      case neg =>
        rw [decide_eq_false c1]
        exact iteF ⟨_, rfl, iteF (iteF stay)⟩
      rw [decide_eq_true c1]
      refine iteT ⟨_, _, rfl, rfl, _, rfl, ?_⟩
      by_cases c2 : how ≤ 6
      case neg =>
        rw [decide_eq_false c2]
        exact iteF (iteF stay)
      rw [decide_eq_true c2]
      obtain ⟨la, ys, rfl, hla, hps⟩ := id hpl
      have hyl := paired_len hps
      refine iteT ⟨_, rfl, la, ys, rfl, .inl (SqL.of (g1.sub _ _ hla)), _, _, rfl, rfl, _, rfl, ?_⟩
      by_cases c3 : (0 : Int) < (ys.length : Int)
      case neg => exact iteDF c3 stay
      refine iteDT c3 ⟨_, rfl, _, rfl, _, rfl, F1, _, ds0, how, z, rfl, g1.sub, hpl, by omega, by omega, fun F2 H2 u ds2 g2 hu hl2 => ?_⟩
      exact ⟨F2, u, ds2, rfl, g1.trans g2, hu, hl2⟩
    clear hpl g1 hl0
    rintro σ H2 ⟨F2, v2, ds, rfl, g2, hpl, hdl⟩
    -- a spoilt number of places
    refine ⟨fun σ H' => ∃ m : Int, σ = [some (.ref a), some (.int m), some v2, some (.int z), some (.int how), none, none] ∧ Grow H H F2 H', ?_, ?_⟩
    · have go : ∀ A B : Prop, (A → B) → A → B := fun _ _ h => h
      have pick : tAsg (tOp (rIxL K) (tLst (tCons (tOp (rI0 fun i j => V.int (i + j)) (tVar 1) (tC (V.int 1))) (tCons (tOp (rI0 fun i j => V.int (i - j)) (tVar 1) (tC (V.int 1))) (tCons (tC (V.int 100)) (tCons (tUn (rU fun i => V.int (-i)) (tC (V.int 100))) tNil)))))
          (tOp (rI (fun x j => 0 < j) fun i j => V.int (i % j)) (tVar 3) (tC (V.int 4)))) (gName 1) { nx := fun σ H' => ∃ m : Int, σ = [some (.ref a), some (.int m), some v2, some (.int z), some (.int how), none, none] ∧ Grow H H F2 H', rt := Q }
          [some (.ref a), some (nv n0), some v2, some (.int z), some (.int how), none, none] H2 := by
        obtain ⟨m, hm, hm'⟩ := emod_nat z (n := 4) (by omega)
        have hm : z % 4 = (m : Int) := hm
        obtain ⟨w, hw⟩ : ∃ w : Int, ([V.int ((n0 : Int) + 1), V.int ((n0 : Int) - 1), V.int 100, V.int (-100)] : List V)[m]? = some (.int w) := by
          have : m = 0 ∨ m = 1 ∨ m = 2 ∨ m = 3 := by omega
          rcases this with rfl | rfl | rfl | rfl
          · exact ⟨_, rfl⟩
          · exact ⟨_, rfl⟩
          · exact ⟨_, rfl⟩
          · exact ⟨_, rfl⟩
        refine ⟨_, rfl, _, _, rfl, rfl, _, rfl, _, _, rfl, rfl, 100, rfl, (by show 4 ≤ sizeLine; decide), fun l3 hl3 => ?_⟩
        have g3 := g2.hid (.lst [V.int ((n0 : Int) + 1), V.int ((n0 : Int) - 1), V.int 100, V.int (-100)]) hl3
        refine ⟨_, rfl, _, _, rfl, rfl, (by show (0 : Int) < 4; decide), l3, _, _, .int w, rfl, rfl, SqL.of upd_same, ?_, ?_⟩
        · show atI _ (z % 4) = _
          rw [hm]
          exact atI_nat hw
        · exact ⟨w, rfl, g3⟩
      refine ⟨_, rfl, rfl, _, rfl, ?_⟩
      by_cases c1 : V.int how = V.int 7
      · exact iteDT c1 (iteT pick)
      refine iteDF c1 ⟨_, rfl, rfl, _, rfl, ?_⟩
      by_cases c2 : V.int how = V.int 8
      · exact iteDT c2 pick
      · exact iteDF c2 ⟨n0, rfl, g2⟩
    rintro σ H3 ⟨m, rfl, g3⟩
    -- handed
    obtain ⟨la, ys, rfl, hla, hps⟩ := id hpl
    have hyl := paired_len hps
    refine ⟨_, rfl, la, ys, rfl, .inl (SqL.of (g3.sub _ _ hla)), fun hd hhd => ?_⟩
    have g4 := g3.alloc (.lst ys) hhd
    have s4 := same_new (.lst ys) (g3.sub.free hhd)
    have Hhd : H hd = none := g3.keep.free hhd
    have hpl4 : PairL (upd F2 hd (.lst ys)) (.ref hd) ds := ⟨hd, ys, rfl, upd_same, paired_ext (fun _ _ h => h.ext s4) hps⟩
    have hhd4 : (upd F2 hd (.lst ys)) hd = some (.lst ys) := upd_same
    have nla : la ≠ hd := ne_of_none (g3.sub _ _ hla) hhd
    generalize upd H3 hd (.lst ys) = H4 at g4
    generalize upd F2 hd (.lst ys) = F4 at g4 s4 hpl4 hhd4
    refine ⟨_, rfl, _, rfl, F4, m, _, ds, rfl, g4.sub, hpl4, by omega, fun fl F5 H5 t x dx d ys5 g5 ht5 hx5 hd5 hp5 Hx Hd => ?_, fun fl F5 H5 t g5 ht5 => ?_⟩
    · have g5' := g4.trans g5
      have d1 : Dp K H5 (.ref hd) (.list (ds.map dPr)) := PairL.dp (hpl4.ext (g5.ss.trans g5'.sub))
      have d2 : Dp K H5 (.ref la) (.list (ds.map dPr)) := PairL.dp (hpl.ext (s4.trans (g5.ss.trans g5'.sub)))
      refine ⟨_, rfl, _, rfl, _, _, d1, d2, dPrs_shaped _, dPrs_shaped _, _, rfl, iteMF (dPrs_eqL _) ?_⟩
      -- if not good
      refine ⟨_, rfl, _, rfl, F5, m, _, ds, rfl, g5'.sub, hpl.ext (s4.trans g5.ss), by omega, fun F6 H6 g6 => ⟨_, rfl, ?_⟩⟩
      rw [fl]
      refine iteF ?_
      have g6' := g5'.trans g6
      have ht6 := g6.ss _ _ ht5
      refine ⟨_, rfl, t, _, 0, nv 0, rfl, rfl, SqT.of (g6'.sub _ _ ht6), rfl, rfl, _, rfl, iteNF rfl ?_⟩
      -- handed.append((0, 1))
      have hhd6 : F6 hd = some (.lst ys) := g6.ss _ _ (g5.ss _ _ hhd4)
      have hx6 := g6.ss _ _ hx5
      have hd6 := g6.ss _ _ hd5
      have hla6 : F6 la = some (.lst ys) := g6.ss _ _ (g5.ss _ _ (s4 _ _ hla))
      have nt : t ≠ hd := fun e => by rw [e, hhd6] at ht6; cases ht6
      have nx : x ≠ hd := fun e => by rw [e, hhd6] at hx6; cases hx6
      have nd2 : d ≠ hd := fun e => by rw [e, g4.sub _ _ hhd4] at Hd; cases Hd
      have hp6 : Paired (PairT fun b => if b = hd then none else F6 b) ys5 ds := Paired.mapP hp5 fun _ _ z => pair_drop (z.ext g6.ss) hhd6
      have hps6 : Paired (PairT fun b => if b = hd then none else F6 b) ys ds := Paired.mapP hps fun _ _ z => pair_drop (z.ext (s4.trans (g5.ss.trans g6.ss))) hhd6
      have hH6 : H6 hd = some (.lst ys) := g6'.sub _ _ hhd6
      refine ⟨_, rfl, .inl ⟨rfl, _, SqL.of hH6⟩, (by show 2 ≤ sizeLine; decide), fun t2 ht2 => ?_⟩
      have g7 := (g6'.drop Hhd).hid (.tup [V.int 0, V.int 1]) ht2
      have n2 : hd ≠ t2 := ne_of_none hH6 ht2
      refine ⟨hd, ys, .ref t2, rfl, rfl, by rw [upd_ne n2]; exact hH6, by rw [sizeLine_eq]; omega, ?_⟩
      have g8 := g7.mut (.lst (ys ++ [.ref t2])) (l := hd) (if_pos rfl) Hhd
      generalize upd (upd H6 t2 (.tup [V.int 0, V.int 1])) hd (.lst (ys ++ [.ref t2])) = H8 at g8
      have ht8 := g8.sub t _ ((if_neg nt).trans ht6)
      have hx8 := g8.sub x _ ((if_neg nx).trans hx6)
      have hd8 := g8.sub d _ ((if_neg nd2).trans hd6)
      have hla8 := g8.sub la _ ((if_neg nla).trans hla6)
      have e1 : Dp K H8 (.ref d) (.list (ds.map dPr)) := .lst (SqL.of hd8) (prs_dp (Paired.mapP hp6 fun _ _ z => z.ext g8.sub))
      have e2 : Dp K H8 (.ref la) (.list (ds.map dPr)) := .lst (SqL.of hla8) (prs_dp (Paired.mapP hps6 fun _ _ z => z.ext g8.sub))
      refine ⟨_, rfl, t, _, 1, .ref x, rfl, rfl, SqT.of ht8, rfl, x, C, dx, _, _, rfl, hx8, T.cl, T.nP, flds_places _ _, _, rfl, rfl, ?_⟩
      rw [decide_eq_true (show V.int m = V.int m from rfl)]
      refine ⟨true, rfl, iteT ?_⟩
      refine ⟨_, rfl, t, _, 1, .ref x, rfl, rfl, SqT.of ht8, rfl, x, C, dx, _, _, rfl, hx8, T.cl, T.nD, flds_doors _ _, _, rfl, _, _, e1, e2, dPrs_shaped _, dPrs_shaped _, ?_⟩
      rw [dPrs_eqL]
      exact k H8
    · have g5' := g4.trans g5
      have d1 : Dp K H5 (.ref hd) (.list (ds.map dPr)) := PairL.dp (hpl4.ext (g5.ss.trans g5'.sub))
      have d2 : Dp K H5 (.ref la) (.list (ds.map dPr)) := PairL.dp (hpl.ext (s4.trans (g5.ss.trans g5'.sub)))
      refine ⟨_, rfl, _, rfl, _, _, d1, d2, dPrs_shaped _, dPrs_shaped _, _, rfl, iteMF (dPrs_eqL _) ?_⟩
      refine ⟨_, rfl, _, rfl, F5, m, _, ds, rfl, g5'.sub, hpl.ext (s4.trans g5.ss), by omega, fun F6 H6 g6 => ⟨_, rfl, ?_⟩⟩
      rw [fl]
      refine iteT ⟨_, rfl, t, _, 0, nv 1, rfl, rfl, SqT.of ((g5'.trans g6).sub _ _ (g6.ss _ _ ht5)), rfl, rfl, ?_⟩
      show Q (.bl (decide (nv 1 = V.int 1))) H6
      rw [decide_eq_true (show nv 1 = V.int 1 from rfl)]
      exact k H6
end
end CF

namespace CF
open PySem L2
theorem all_mk {l : PySem.W.OpenLaw} {w : World} {K : PySem.W.Frag} {h : Heap} {mg : Str → Option Value} {fa C f0 f1 f2 f3 f4 f5 f6 f7 f8 f9 XNoFloor XNoStanding XCaught XFree XNoNumber XChaseError : Addr} (X : K.In h) (G : h.Ns mainGlobals mg) (hfa : mg "law" = some (.ref fa))
    {od0 an0 od1 an1 od2 an2 od3 an3 od4 an4 od5 an5 od6 an6 od7 an7 od8 an8 od9 an9 : Option Addr} {sl0 sl1 sl2 sl3 sl4 sl5 sl6 sl7 sl8 sl9 : Array (Option Value)} {oc0 kV0 dc0 pm0 cd0 ct0 oc1 kV1 dc1 pm1 cd1 ct1 oc2 kV2 dc2 pm2 cd2 ct2 oc3 kV3 dc3 pm3 cd3 ct3 oc4 kV4 dc4 pm4 cd4 ct4 oc5 kV5 dc5 pm5 cd5 ct5 oc6 kV6 dc6 pm6 cd6 ct6 oc7 kV7 dc7 pm7 cd7 ct7 oc8 kV8 dc8 pm8 cd8 ct8 oc9 kV9 dc9 pm9 cd9 ct9 : Value} {t_MOST : Tok}
    (aC : PySem.W.nsIn K mainGlobals "Floor" = some (some (.ref C)))
    (a0 : PySem.W.nsIn K mainGlobals "_law_cell_at" = some (some (.ref f0)))
    (l0 : K.lookup f0 = some ⟨oc0, od0, .func (PySem.W.fnOf "_law_cell_at" "_law_cell_at" (defArgs s_law_cell_at) (defBody s_law_cell_at) (defScope s_law_cell_at) .none kV0 dc0 pm0 an0 cd0 ct0), sl0⟩)
    (c0 : PySem.W.codeIn K cd0 "_law_cell_at" = true)
    (k0 : PySem.W.keepIn K (.ref f0) = true)
    (a1 : PySem.W.nsIn K mainGlobals "_law_floor_by" = some (some (.ref f1)))
    (l1 : K.lookup f1 = some ⟨oc1, od1, .func (PySem.W.fnOf "_law_floor_by" "_law_floor_by" (defArgs s_law_floor_by) (defBody s_law_floor_by) (defScope s_law_floor_by) .none kV1 dc1 pm1 an1 cd1 ct1), sl1⟩)
    (c1 : PySem.W.codeIn K cd1 "_law_floor_by" = true)
    (k1 : PySem.W.keepIn K (.ref f1) = true)
    (a2 : PySem.W.nsIn K mainGlobals "_law_next" = some (some (.ref f2)))
    (l2 : K.lookup f2 = some ⟨oc2, od2, .func (PySem.W.fnOf "_law_next" "_law_next" (defArgs s_law_next) (defBody s_law_next) (defScope s_law_next) .none kV2 dc2 pm2 an2 cd2 ct2), sl2⟩)
    (c2 : PySem.W.codeIn K cd2 "_law_next" = true)
    (k2 : PySem.W.keepIn K (.ref f2) = true)
    (a3 : PySem.W.nsIn K mainGlobals "_law_spoilt" = some (some (.ref f3)))
    (l3 : K.lookup f3 = some ⟨oc3, od3, .func (PySem.W.fnOf "_law_spoilt" "_law_spoilt" (defArgs s_law_spoilt) (defBody s_law_spoilt) (defScope s_law_spoilt) .none kV3 dc3 pm3 an3 cd3 ct3), sl3⟩)
    (c3 : PySem.W.codeIn K cd3 "_law_spoilt" = true)
    (k3 : PySem.W.keepIn K (.ref f3) = true)
    (a4 : PySem.W.nsIn K mainGlobals "all_reached" = some (some (.ref f4)))
    (l4 : K.lookup f4 = some ⟨oc4, od4, .func (PySem.W.fnOf "all_reached" "all_reached" (defArgs s_all_reached) (defBody s_all_reached) (defScope s_all_reached) .none kV4 dc4 pm4 an4 cd4 ct4), sl4⟩)
    (c4 : PySem.W.codeIn K cd4 "all_reached" = true)
    (k4 : PySem.W.keepIn K (.ref f4) = true)
    (a5 : PySem.W.findIn K (.ref C) "__init__" = some (some (.ref f5)))
    (i5 : PySem.W.isFn K (.ref f5) = true)
    (l5 : K.lookup f5 = some ⟨oc5, od5, .func (PySem.W.fnOf "__init__" "Floor.__init__" (defArgs s_init) (defBody s_init) (defScope s_init) .none kV5 dc5 pm5 an5 cd5 ct5), sl5⟩)
    (c5 : PySem.W.codeIn K cd5 "Floor.__init__" = true)
    (k5 : PySem.W.keepIn K (.ref f5) = true)
    (a6 : PySem.W.nsIn K mainGlobals "_law_other" = some (some (.ref f6)))
    (l6 : K.lookup f6 = some ⟨oc6, od6, .func (PySem.W.fnOf "_law_other" "_law_other" (defArgs s_law_other) (defBody s_law_other) (defScope s_law_other) .none kV6 dc6 pm6 an6 cd6 ct6), sl6⟩)
    (c6 : PySem.W.codeIn K cd6 "_law_other" = true)
    (k6 : PySem.W.keepIn K (.ref f6) = true)
    (a7 : PySem.W.nsIn K mainGlobals "_law_told" = some (some (.ref f7)))
    (l7 : K.lookup f7 = some ⟨oc7, od7, .func (PySem.W.fnOf "_law_told" "_law_told" (defArgs s_law_told) (defBody s_law_told) (defScope s_law_told) .none kV7 dc7 pm7 an7 cd7 ct7), sl7⟩)
    (c7 : PySem.W.codeIn K cd7 "_law_told" = true)
    (k7 : PySem.W.keepIn K (.ref f7) = true)
    (a8 : PySem.W.nsIn K mainGlobals "_law_good" = some (some (.ref f8)))
    (l8 : K.lookup f8 = some ⟨oc8, od8, .func (PySem.W.fnOf "_law_good" "_law_good" (defArgs s_law_good) (defBody s_law_good) (defScope s_law_good) .none kV8 dc8 pm8 an8 cd8 ct8), sl8⟩)
    (c8 : PySem.W.codeIn K cd8 "_law_good" = true)
    (k8 : PySem.W.keepIn K (.ref f8) = true)
    (a9 : PySem.W.nsIn K mainGlobals "law" = some (some (.ref f9)))
    (l9 : K.lookup f9 = some ⟨oc9, od9, .func (PySem.W.fnOf "law" "law" (defArgs s_law) (defBody s_law) (defScope s_law) .none kV9 dc9 pm9 an9 cd9 ct9), sl9⟩)
    (c9 : PySem.W.codeIn K cd9 "law" = true)
    (k9 : PySem.W.keepIn K (.ref f9) = true)
    (pg : PySem.W.plainGet K C Str.empty = true)
    (hd : PySem.W.hasDictIn K C = true)
    (po : PySem.W.plainOver K C = true)
    (sa : PySem.W.findIn K (.ref C) "__setattr__" = some (some (.builtin "object.__setattr__")))
    (mk : PySem.W.makesIn K C = true)
    (kc : PySem.W.keepIn K (.ref C) = true)
    (nP : PySem.W.findIn K (.ref C) "places" = some none)
    (nD : PySem.W.findIn K (.ref C) "doors" = some none)
    (eaNoFloor : PySem.W.nsIn K mainGlobals "NoFloor" = some (some (.ref XNoFloor)))
    (enNoFloor : PySem.W.excIn K XNoFloor [.type "ValueError", .type "Exception", .type "BaseException", .type "object"] "ValueError.__new__" = true)
    (ekNoFloor : PySem.W.keepIn K (.ref XNoFloor) = true)
    (ebNoFloor : PySem.W.subIn K (.ref XNoFloor) (.type "BaseException") = some true)
    (etNoFloor : PySem.W.typeIn K (.ref XNoFloor) = some (.type "type"))
    (eaNoStanding : PySem.W.nsIn K mainGlobals "NoStanding" = some (some (.ref XNoStanding)))
    (eaCaught : PySem.W.nsIn K mainGlobals "Caught" = some (some (.ref XCaught)))
    (eaFree : PySem.W.nsIn K mainGlobals "Free" = some (some (.ref XFree)))
    (eaNoNumber : PySem.W.nsIn K mainGlobals "NoNumber" = some (some (.ref XNoNumber)))
    (eaChaseError : PySem.W.nsIn K mainGlobals "ChaseError" = some (some (.ref XChaseError)))
    (rn : PySem.W.specialIn K (.builtin "object.__class__") "__get__" = some (some (.builtin "getset_descriptor.__get__")))
    (rt : PySem.W.takesIn K (.builtin "object.__class__") = some true)
    (rgNoFloor : PySem.W.findIn K (.ref XNoFloor) "__getattribute__" = some (some (.builtin "BaseException.__getattribute__")))
    (rkNoFloor : PySem.W.findIn K (.ref XNoFloor) "__getattr__" = some none)
    (rhNoFloor : PySem.W.hasDictIn K XNoFloor = true)
    (raNoFloor : PySem.W.findIn K (.ref XNoFloor) "__class__" = some (some (.builtin "object.__class__")))
    (rmNoFloor : PySem.W.mroIn K XNoFloor (.type "object") = some true)
    (qNoFloor0 : PySem.W.kitOne K (.ref XNoFloor) (.ref XNoFloor) = some true)
    (qNoFloor1 : PySem.W.kitOne K (.ref XNoFloor) (.ref XNoStanding) = some false)
    (qNoFloor2 : PySem.W.kitOne K (.ref XNoFloor) (.ref XCaught) = some false)
    (qNoFloor3 : PySem.W.kitOne K (.ref XNoFloor) (.ref XFree) = some false)
    (qNoFloor4 : PySem.W.kitOne K (.ref XNoFloor) (.ref XNoNumber) = some false)
    (qvNoFloor : PySem.W.kitOne K (.ref XNoFloor) (.type "ValueError") = some true)
    (qeNoFloor : PySem.W.exmOne K (.ref XNoFloor) (.ref XChaseError) = some true)
    (z_list : PySem.W.nsIn K mainGlobals "list" = some none)
    (z_len : PySem.W.nsIn K mainGlobals "len" = some none)
    (z_range : PySem.W.nsIn K mainGlobals "range" = some none)
    (z_min : PySem.W.nsIn K mainGlobals "min" = some none)
    (z_max : PySem.W.nsIn K mainGlobals "max" = some none)
    (z_sorted : PySem.W.nsIn K mainGlobals "sorted" = some none)
    (z_int : PySem.W.nsIn K mainGlobals "int" = some none)
    (z_isinstance : PySem.W.nsIn K mainGlobals "isinstance" = some none)
    (z_ValueError : PySem.W.nsIn K mainGlobals "ValueError" = some none)
    (z_set : PySem.W.nsIn K mainGlobals "set" = some none)
    (y_MOST : PySem.W.nsIn K mainGlobals "MOST" = some (some (.int 6 t_MOST)))
    : ∃ fd : FuncData, (∀ (s : Shared) (v : Value), BindsTo s fd ⟨[v], []⟩ [("script", v)]) ∧ ∀ base : Heap, K.In base → base.Ns mainGlobals mg → FnOk l.prog w K mg base CX0 5 fa fd ["script"] (spLaw K) := by
  have e := hfa.symm.trans (PySem.W.mg_of X G a9)
  cases e
  have T : FlrC K mg C := ⟨⟨pg, hd, po, sa⟩, nP, nD, PySem.W.mg_of X G aC⟩
  have E_NoFloor : Exn K mg "NoFloor" XNoFloor := ⟨PySem.W.mg_of X G eaNoFloor, enNoFloor, ekNoFloor, ebNoFloor, etNoFloor⟩
  have R_NoFloor : Rfs K mg "NoFloor" XNoFloor 0 := ⟨⟨⟨rgNoFloor, rkNoFloor, ebNoFloor, rhNoFloor, raNoFloor, rn, rt, rmNoFloor⟩, ⟨_, PySem.W.mg_of X G eaNoFloor, qNoFloor0⟩, ⟨_, PySem.W.mg_of X G eaNoStanding, qNoFloor1⟩, ⟨_, PySem.W.mg_of X G eaCaught, qNoFloor2⟩, ⟨_, PySem.W.mg_of X G eaFree, qNoFloor3⟩, ⟨_, PySem.W.mg_of X G eaNoNumber, qNoFloor4⟩, qvNoFloor⟩, _, PySem.W.mg_of X G eaChaseError, qeNoFloor⟩
  have n_list : mg "list" = none := PySem.W.mg_none_of X G z_list
  have n_len : mg "len" = none := PySem.W.mg_none_of X G z_len
  have n_range : mg "range" = none := PySem.W.mg_none_of X G z_range
  have n_min : mg "min" = none := PySem.W.mg_none_of X G z_min
  have n_max : mg "max" = none := PySem.W.mg_none_of X G z_max
  have n_sorted : mg "sorted" = none := PySem.W.mg_none_of X G z_sorted
  have n_int : mg "int" = none := PySem.W.mg_none_of X G z_int
  have n_isinstance : mg "isinstance" = none := PySem.W.mg_none_of X G z_isinstance
  have n_ValueError : mg "ValueError" = none := PySem.W.mg_none_of X G z_ValueError
  have n_set : mg "set" = none := PySem.W.mg_none_of X G z_set
  have g_MOST : ∃ t, mg "MOST" = some (.int 6 t) := ⟨_, PySem.W.mg_of X G y_MOST⟩
  have F__law_cell_at := fun_mk (st := s_law_cell_at) l0 c0 k0
  have b__law_cell_at := F__law_cell_at.binds (ps := ["script", "k"]) fun _ _ _ _ _ _ us hl => match us, hl with | [_, _], _ => rfl
  have F__law_floor_by := fun_mk (st := s_law_floor_by) l1 c1 k1
  have b__law_floor_by := F__law_floor_by.binds (ps := ["script", "most"]) fun _ _ _ _ _ _ us hl => match us, hl with | [_, _], _ => rfl
  have F__law_next := fun_mk (st := s_law_next) l2 c2 k2
  have b__law_next := F__law_next.binds (ps := ["seed"]) fun _ _ _ _ _ _ us hl => match us, hl with | [_], _ => rfl
  have F__law_spoilt := fun_mk (st := s_law_spoilt) l3 c3 k3
  have b__law_spoilt := F__law_spoilt.binds (ps := ["doors", "how", "cell"]) fun _ _ _ _ _ _ us hl => match us, hl with | [_, _, _], _ => rfl
  have F_all_reached := fun_mk (st := s_all_reached) l4 c4 k4
  have b_all_reached := F_all_reached.binds (ps := ["places", "doors"]) fun _ _ _ _ _ _ us hl => match us, hl with | [_, _], _ => rfl
  have F___init__ := fun_mk (st := s_init) l5 c5 k5
  have b___init__ := F___init__.binds (ps := ["self", "places", "doors"]) fun _ _ _ _ _ _ us hl => match us, hl with | [_, _, _], _ => rfl
  have F__law_other := fun_mk (st := s_law_other) l6 c6 k6
  have b__law_other := F__law_other.binds (ps := ["e", "wanted"]) fun _ _ _ _ _ _ us hl => match us, hl with | [_, _], _ => rfl
  have F__law_told := fun_mk (st := s_law_told) l7 c7 k7
  have b__law_told := F__law_told.binds (ps := ["places", "doors"]) fun _ _ _ _ _ _ us hl => match us, hl with | [_, _], _ => rfl
  have F__law_good := fun_mk (st := s_law_good) l8 c8 k8
  have b__law_good := F__law_good.binds (ps := ["places", "doors"]) fun _ _ _ _ _ _ us hl => match us, hl with | [_, _], _ => rfl
  have F_law := fun_mk (st := s_law) l9 c9 k9
  have b_law := F_law.binds (ps := ["script"]) fun _ _ _ _ _ _ us hl => match us, hl with | [_], _ => rfl
  refine ⟨PySem.W.fnOf "law" "law" (defArgs s_law) (defBody s_law) (defScope s_law) .none kV9 dc9 pm9 an9 cd9 ct9, fun s v => .of_eq rfl, fun base _ _ => ?_⟩
  have c__law_cell_at : Cal l.prog w K mg base 1 "_law_cell_at" _ _ := ⟨_, _, (fn_toN (ok_cell (P := l.prog) (w := w) (K := K) (mg := mg) (base := base) F__law_cell_at n_len)), PySem.W.mg_of X G a0, k0, b__law_cell_at⟩
  have c__law_floor_by : Cal l.prog w K mg base 2 "_law_floor_by" _ _ := ⟨_, _, (fn_toN (ok_lfloor (P := l.prog) (w := w) (K := K) (mg := mg) (base := base) F__law_floor_by n_range n_min n_max n_sorted c__law_cell_at)), PySem.W.mg_of X G a1, k1, b__law_floor_by⟩
  have c__law_next : Cal l.prog w K mg base 1 "_law_next" _ _ := ⟨_, _, (fn_toN (ok_next (P := l.prog) (w := w) (K := K) (mg := mg) (base := base) F__law_next)), PySem.W.mg_of X G a2, k2, b__law_next⟩
  have c__law_spoilt : Cal l.prog w K mg base 1 "_law_spoilt" _ _ := ⟨_, _, (fn_toN (ok_spoilt (P := l.prog) (w := w) (K := K) (mg := mg) (base := base) F__law_spoilt n_len)), PySem.W.mg_of X G a3, k3, b__law_spoilt⟩
  have c_all_reached : Cal l.prog w K mg base 1 "all_reached" _ _ := ⟨_, _, (fn_toN (ok_reached (P := l.prog) (w := w) (K := K) (mg := mg) (base := base) F_all_reached n_range n_len)), PySem.W.mg_of X G a4, k4, b_all_reached⟩
  have c_mk : MkF l.prog w K mg base C _ := ⟨_, _, ⟨mk, a5, i5, kc⟩, (id (ok_init (P := l.prog) (w := w) (K := K) (mg := mg) (base := base) F___init__ T E_NoFloor n_range n_len n_list g_MOST c_all_reached)), b___init__⟩
  have c__law_other : CalE l.prog w K mg base 1 "_law_other" _ _ := ⟨_, _, ok_other (P := l.prog) (w := w) (K := K) (mg := mg) (base := base) F__law_other n_isinstance n_range n_ValueError, PySem.W.mg_of X G a6, k6, b__law_other⟩
  have c__law_told : Cal l.prog w K mg base 4 "_law_told" _ _ := ⟨_, _, (fn_toN (ok_told (P := l.prog) (w := w) (K := K) (mg := mg) (base := base) F__law_told T c_mk n_int c__law_other R_NoFloor)), PySem.W.mg_of X G a7, k7, b__law_told⟩
  have c__law_good : Cal l.prog w K mg base 1 "_law_good" _ _ := ⟨_, _, (fn_toN (ok_good (P := l.prog) (w := w) (K := K) (mg := mg) (base := base) F__law_good n_range n_len n_list n_set)), PySem.W.mg_of X G a8, k8, b__law_good⟩
  exact ok_law (P := l.prog) (w := w) (K := K) (mg := mg) (base := base) F_law T n_list n_len c__law_cell_at c__law_floor_by c__law_next c__law_spoilt c__law_told c__law_good
theorem walk {l : PySem.W.OpenLaw} {q : Program} {loose : List Str} {XP : (Str → Option Value) → Heap → Prop} {YP : World → Heap → Prop} {d : DefRec} {K : Params → PySem.W.Frag} (hn : l.most = some 63) (hdf : d.params.defaults = []) (hY : ∀ (w : World) (h : Heap), YP w h → (K w.params).In h)
    (F : ∀ (w : World) (mg : Str → Option Value) (fa : Addr) (h : Heap), (K w.params).In h → h.Ns mainGlobals mg → mg d.name = some (.ref fa) → ∃ fd : FuncData, (∀ (s : Shared) (u : Value), BindsTo s fd ⟨[u], []⟩ [("script", u)]) ∧ ∀ base : Heap, (K w.params).In base → base.Ns mainGlobals mg → FnOk l.prog w (K w.params) mg base CX0 5 fa fd ["script"] (spLaw (K w.params))) : PySem.W.WalkO q loose XP YP l.row.toRowW d [] (fun f vs => PySem.call f vs) :=
  walk_of (n := 63) (k := 5) (x := "script") (CX := fun _ => CX0) (sp := fun w => spLaw (K w.params)) hn (by decide) hdf ⟨rfl, by decide, by decide⟩ hY F (fun _ _ a ns hl _ hS => ⟨a, ns, rfl, hS, hl, fun _ => rfl⟩) fun _ _ _ _ _ z => z
end CF
open PySem PySem.W PyProof.Rows
set_option maxRecDepth 100000 in
set_option maxHeartbeats 0 in
theorem PySem.Challenge.cw_chasefloor_k01_floors_made_holds : PySem.Challenge.rw_chasefloor_k01_floors_made.Holds := by
  w_on; o_law; k_head; (case hw => w_witness2)
  k_fill
  refine CF.walk (l := PySem.Challenge.rw_chasefloor_k01_floors_made) rfl rfl (fun w h Y => PySem.W.kIn_of Y) ?F
  case F =>
    intro w mg fa h KX G hmg
    refine' CF.all_mk KX G hmg ?aC ?a0 ?l0 ?c0 ?k0 ?a1 ?l1 ?c1 ?k1 ?a2 ?l2 ?c2 ?k2 ?a3 ?l3 ?c3 ?k3 ?a4 ?l4 ?c4 ?k4 ?a5 ?i5 ?l5 ?c5 ?k5 ?a6 ?l6 ?c6 ?k6 ?a7 ?l7 ?c7 ?k7 ?a8 ?l8 ?c8 ?k8 ?a9 ?l9 ?c9 ?k9 ?pg ?hd ?po ?sa ?mk ?kc ?nP ?nD ?eaNoFloor ?enNoFloor ?ekNoFloor ?ebNoFloor ?etNoFloor ?eaNoStanding ?eaCaught ?eaFree ?eaNoNumber ?eaChaseError ?rn ?rt ?rgNoFloor ?rkNoFloor ?rhNoFloor ?raNoFloor ?rmNoFloor ?qNoFloor0 ?qNoFloor1 ?qNoFloor2 ?qNoFloor3 ?qNoFloor4 ?qvNoFloor ?qeNoFloor ?z_list ?z_len ?z_range ?z_min ?z_max ?z_sorted ?z_int ?z_isinstance ?z_ValueError ?z_set ?y_MOST
    (case aC => k_is); (case a0 => k_is); (case l0 => k_is); (case c0 => k_is); (case k0 => k_is); (case a1 => k_is)
    (case l1 => k_is); (case c1 => k_is); (case k1 => k_is); (case a2 => k_is); (case l2 => k_is); (case c2 => k_is)
    (case k2 => k_is); (case a3 => k_is); (case l3 => k_is); (case c3 => k_is); (case k3 => k_is); (case a4 => k_is)
    (case l4 => k_is); (case c4 => k_is); (case k4 => k_is); (case a5 => k_is); (case i5 => k_is); (case l5 => k_is)
    (case c5 => k_is); (case k5 => k_is); (case a6 => k_is); (case l6 => k_is); (case c6 => k_is); (case k6 => k_is)
    (case a7 => k_is); (case l7 => k_is); (case c7 => k_is); (case k7 => k_is); (case a8 => k_is); (case l8 => k_is)
    (case c8 => k_is); (case k8 => k_is); (case a9 => k_is); (case l9 => k_is); (case c9 => k_is); (case k9 => k_is)
    (case pg => k_is); (case hd => k_is); (case po => k_is); (case sa => k_is); (case mk => k_is); (case kc => k_is)
    (case nP => k_is); (case nD => k_is); (case eaNoFloor => k_is); (case enNoFloor => k_exc); (case ekNoFloor => k_is); (case ebNoFloor => k_is)
    (case etNoFloor => k_is); (case eaNoStanding => k_is); (case eaCaught => k_is); (case eaFree => k_is); (case eaNoNumber => k_is); (case eaChaseError => k_is)
    (case rn => first | k_is | rfl | decide +kernel); (case rt => first | k_is | rfl | decide +kernel); (case rgNoFloor => first | k_is | rfl | decide +kernel); (case rkNoFloor => first | k_is | rfl | decide +kernel); (case rhNoFloor => first | k_is | rfl | decide +kernel); (case raNoFloor => first | k_is | rfl | decide +kernel)
    (case rmNoFloor => first | k_is | rfl | decide +kernel); (case qNoFloor0 => first | k_is | rfl | decide +kernel); (case qNoFloor1 => first | k_is | rfl | decide +kernel); (case qNoFloor2 => first | k_is | rfl | decide +kernel); (case qNoFloor3 => first | k_is | rfl | decide +kernel); (case qNoFloor4 => first | k_is | rfl | decide +kernel)
    (case qvNoFloor => first | k_is | rfl | decide +kernel); (case qeNoFloor => first | k_is | rfl | decide +kernel); (case z_list => k_is); (case z_len => k_is); (case z_range => k_is); (case z_min => k_is)
    (case z_max => k_is); (case z_sorted => k_is); (case z_int => k_is); (case z_isinstance => k_is); (case z_ValueError => k_is); (case z_set => k_is)
    (case y_MOST => k_is)
