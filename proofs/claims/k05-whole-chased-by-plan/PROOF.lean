import PyProof.Rows.All
import HandS.Style
import Wide.All
import OpenK.AllK
import Wide.FinOn
import HandS.ForMost
import HandS.Exc
import HandS.TryOnly
import HandS.ExcOwn
import HandS.WordsExc
import HandS.Deep
import HandS.TupLe
import HandS.TupAny
import HandS.Zip
import HandS.HotCalls
import HandS.ExcIs
import HandS.IsInst
import HandS.Conv
import HandS.SortRule
import HandS.More
import KE.KDictKeyed
import KE.KDictCopyH
import KE.KDictSum
import HandS.SuiteRaise
import HandS.SetFor
import HandS.Iter
import HandS.ExcBuiltin
import HandS.Words
import PySem.Challenge.RW_chasefloor_k05_whole_chased_by_plan
set_option Elab.async false
set_option maxRecDepth 100000
set_option maxHeartbeats 4000000
/-! Dicts whose keys are pairs (tuple of whole numbers, whole number). -/
namespace CF
open PySem L2

/-- such a key: the numbers of the inner tuple, and the number behind -/
abbrev NK := List Int × Int
def nkN (k : NK) : NestedKey := .tup [.tup (k.1.map NestedKey.num), .num k.2]
theorem nums_inj : ∀ {a b : List Int}, a.map NestedKey.num = b.map NestedKey.num → a = b
  | [], [], _ => rfl
  | [], _ :: _, e => by simp at e
  | _ :: _, [], e => by simp at e
  | x :: xs, y :: ys, e => by
    rw [List.map_cons, List.map_cons] at e
    injection e with e1 e2
    injection e1 with e1
    rw [e1, nums_inj e2]
theorem nkN_inj {a b : NK} (e : nkN a = nkN b) : a = b := by
  obtain ⟨a1, a2⟩ := a
  obtain ⟨b1, b2⟩ := b
  unfold nkN at e
  injection e with e
  injection e with e1 e2
  injection e1 with e1
  injection e2 with e2 _
  injection e2 with e2
  have := nums_inj e1
  simp at e2
  subst e2
  subst this
  rfl
/-- the tuple at b is the key k -/
def NAt (H : Hp) (b : Addr) (k : NK) : Prop := ∃ q, H b = some (.tup [.ref q, .int k.2]) ∧ H q = some (.tup (k.1.map V.int))
theorem NAt.ext {H H' : Hp} {b : Addr} {k : NK} (h : NAt H b k) (e : ∀ b xs, H b = some (.tup xs) → H' b = some (.tup xs)) : NAt H' b k := by
  obtain ⟨q, h1, h2⟩ := h
  exact ⟨q, e _ _ h1, e _ _ h2⟩

section
variable {P : Program} {w : World} {H : Hp} {h : Heap}
theorem tup_at {a : Addr} {xs : List V} (ok : HOk P w H h) (e : H a = some (.tup xs)) : ∃ its o n, Vals xs its ∧ h.get? a = some o ∧ o.cls = .type "tuple" ∧ o.data = .seq its.toArray n := by
  obtain ⟨_, its, r, o, h1, h2, n, h3⟩ := (show ObjOk P w H h a (.tup xs) from ok a _ e)
  exact ⟨its, o, n, r, h1, h2, h3⟩
theorem nums_all : ∀ {ks : List Int} {us : List Value}, Vals (ks.map V.int) us → NestedAll h (ks.map NestedKey.num) us
  | [], _, r => by cases r; exact .nil
  | k :: ks, _, r => by
    rw [List.map_cons] at r
    cases r with
    | cons h1 t =>
      obtain ⟨tk, e⟩ := h1
      subst e
      exact .cons (.int k tk) (nums_all t)
theorem depth_nums : ∀ ks : List Int, NestedKey.depthAll (ks.map NestedKey.num) = 0
  | [] => rfl
  | k :: ks => by rw [List.map_cons, NestedKey.depthAll, depth_nums ks]; rfl
theorem nkN_depth (k : NK) : (nkN k).depth ≤ 8 := by
  unfold nkN
  simp [NestedKey.depth, NestedKey.depthAll, depth_nums]
theorem NAt.is {b : Addr} {k : NK} (x : NAt H b k) (ok : HOk P w H h) : (nestedKind P w).is h (nkN k) b := by
  obtain ⟨q, h1, h2⟩ := x
  obtain ⟨its, o, n, r, g1, g2, g3⟩ := tup_at ok h1
  obtain ⟨its2, o2, n2, r2, f1, f2, f3⟩ := tup_at ok h2
  cases r with
  | cons r1 r =>
    cases r with
    | cons r3 r =>
      cases r
      cases r1
      obtain ⟨t, e⟩ := r3
      subst e
      refine ⟨.tup g1 g2 g3 (.cons (.tup f1 f2 f3 ?_) (.cons (.int _ t) .nil)), nkN_depth k⟩
      simpa using nums_all r2
end

/-- the raw entries at a -/
def dNraw (P : Program) (w : World) (a : Addr) (xs : List (NestedKey × Addr × Value)) (h : Heap) : Prop :=
  ∃ o es ep, h.get? a = some o ∧ o.ExactDict ∧ o.data = .dict es ep ∧ es.toList = xs.map (entryOfKey (nestedKind P w)) ∧ (xs.map (·.1)).Nodup
def dN (P : Program) (w : World) (a : Addr) (xs : List (NestedKey × Addr × Value)) : HO := .ext (dNraw P w a xs)
abbrev NRel (H : Hp) : List (NK × Int) → List (NestedKey × Addr × Value) → Prop := Paired fun p q => q.1 = nkN p.1 ∧ NAt H q.2.1 p.1 ∧ RelV (.int p.2) q.2.2
/-- at a stands a dict of such keys, its pairs kvs -/
def RkAt (P : Program) (w : World) (H : Hp) (a : Addr) (kvs : List (NK × Int)) : Prop :=
  kvs.length ≤ sizeLine ∧ (a == sysModules) = false ∧ ∃ xs, H a = some (dN P w a xs) ∧ NRel H kvs xs
def getN (kvs : List (NK × Int)) (k : NK) : Option Int := (kvs.find? fun kv => decide (kv.1 = k)).map (·.2)
def putN (kvs : List (NK × Int)) (k : NK) (v : Int) : List (NK × Int) :=
  if (getN kvs k).isSome = true then kvs.map (fun kv => if kv.1 = k then (kv.1, v) else kv) else kvs ++ [(k, v)]
theorem getN_nil (k : NK) : getN [] k = none := rfl
theorem getN_pos {p : NK × Int} {r : List (NK × Int)} {k : NK} (e : p.1 = k) : getN (p :: r) k = some p.2 := by simp [getN, e]
theorem getN_neg {p : NK × Int} {r : List (NK × Int)} {k : NK} (e : ¬ p.1 = k) : getN (p :: r) k = getN r k := by simp [getN, e]
theorem getN_map (k j : NK) (y : Int) : ∀ kvs : List (NK × Int), getN (kvs.map fun kv => if kv.1 = k then (kv.1, y) else kv) j = (getN kvs j).map fun x => if j = k then y else x
  | [] => rfl
  | p :: r => by
    have ih := getN_map k j y r
    rw [List.map_cons]
    by_cases e : p.1 = j
    · rw [getN_pos e]
      by_cases c : p.1 = k
      · rw [if_pos c, getN_pos (p := (p.1, y)) e]
        simp [← e, c]
      · rw [if_neg c, getN_pos e]
        simp [← e, c]
    · rw [getN_neg e, ← ih]
      by_cases c : p.1 = k
      · rw [if_pos c, getN_neg (p := (p.1, y)) e]
      · rw [if_neg c, getN_neg e]
theorem getN_snoc (k j : NK) (y : Int) : ∀ kvs : List (NK × Int), getN kvs k = none → getN (kvs ++ [(k, y)]) j = if j = k then some y else getN kvs j
  | [], _ => by
    by_cases c : j = k
    · subst c
      rw [if_pos rfl]
      exact getN_pos rfl
    · rw [if_neg c]
      exact getN_neg (fun e => c e.symm)
  | p :: r, h => by
    have hp : ¬ p.1 = k := fun e => by rw [getN_pos e] at h; cases h
    rw [getN_neg hp] at h
    rw [List.cons_append]
    by_cases e : p.1 = j
    · rw [getN_pos e, getN_pos e, if_neg (fun c => hp (e.trans c))]
    · rw [getN_neg e, getN_neg e, getN_snoc k j y r h]
theorem getN_put (kvs : List (NK × Int)) (k j : NK) (y : Int) : getN (putN kvs k y) j = if j = k then some y else getN kvs j := by
  unfold putN
  by_cases c : (getN kvs k).isSome = true
  · rw [if_pos c, getN_map]
    by_cases e : j = k
    · subst e
      obtain ⟨v, hv⟩ := Option.isSome_iff_exists.mp c
      simp [hv]
    · rw [if_neg e]
      simp [e]
  · rw [if_neg c]
    exact getN_snoc k j y kvs (by simpa using c)
theorem length_putN (kvs : List (NK × Int)) (k : NK) (v : Int) : (putN kvs k v).length ≤ kvs.length + 1 := by
  unfold putN
  split
  · rw [List.length_map]; omega
  · rw [List.length_append]; simp

section
variable {H : Hp}
theorem NRel.get {kvs : List (NK × Int)} {xs : List (NestedKey × Addr × Value)} (r : NRel H kvs xs) (k : NK) : RelO ((getN kvs k).map V.int) (valueAt (pairsH xs) (nkN k)) := by
  induction r with
  | nil => exact True.intro
  | @cons p q ps qs hh t ih =>
    obtain ⟨h1, _, h2⟩ := hh
    by_cases e : p.1 = k
    · have b : valueAt (pairsH (q :: qs)) (nkN k) = some q.2.2 := by simp [pairsH, valueAt, h1, e]
      rw [getN_pos e, b]
      exact h2
    · have e' : ¬ nkN p.1 = nkN k := fun z => e (nkN_inj z)
      have b : valueAt (pairsH (q :: qs)) (nkN k) = valueAt (pairsH qs) (nkN k) := by simp [pairsH, valueAt, h1, e']
      rw [getN_neg e, b]
      exact ih
theorem NRel.any {kvs : List (NK × Int)} {xs : List (NestedKey × Addr × Value)} (r : NRel H kvs xs) (k : NK) : (atKey xs (nkN k)).isSome = (getN kvs k).isSome := by
  have q := (r.get k).isSome_eq
  rw [valueAt_pairsH, Option.isSome_map, Option.isSome_map] at q
  exact q.symm
theorem NRel.repl {kvs : List (NK × Int)} {xs : List (NestedKey × Addr × Value)} (r : NRel H kvs xs) (k : NK) {y : Int} {u : Value} (ry : RelV (.int y) u) :
    NRel H (kvs.map fun kv => if kv.1 = k then (kv.1, y) else kv) (xs.map (putAt (nkN k) u)) := by
  induction r with
  | nil => exact .nil
  | @cons p q ps qs hh t ih =>
    obtain ⟨h1, h2, h3⟩ := hh
    rw [List.map_cons, List.map_cons]
    refine .cons ?_ ih
    unfold putAt
    by_cases e : p.1 = k
    · rw [if_pos e, if_pos (by rw [h1, e])]
      exact ⟨h1, h2, ry⟩
    · rw [if_neg e, if_neg (fun z => e (nkN_inj (h1.symm.trans z)))]
      exact ⟨h1, h2, h3⟩
theorem NRel.put {kvs : List (NK × Int)} {xs : List (NestedKey × Addr × Value)} (r : NRel H kvs xs) (k : NK) {b : Addr} {y : Int} {u : Value} (hb : NAt H b k) (ry : RelV (.int y) u) : NRel H (putN kvs k y) (storedH xs (nkN k) b u) := by
  unfold putN storedH
  rw [r.any k]
  by_cases c : (getN kvs k).isSome = true
  · rw [if_pos c, if_pos c]
    exact r.repl k ry
  · rw [if_neg c, if_neg c]
    exact Paired.snoc r ⟨rfl, hb, ry⟩
theorem NRel.ext {H' : Hp} {kvs : List (NK × Int)} {xs : List (NestedKey × Addr × Value)} (r : NRel H kvs xs) (e : ∀ b ys, H b = some (.tup ys) → H' b = some (.tup ys)) : NRel H' kvs xs :=
  Paired.mapP r fun _ _ z => ⟨z.1, z.2.1.ext e, z.2.2⟩
end
theorem NRel.all {P : Program} {w : World} {H : Hp} {h : Heap} {kvs : List (NK × Int)} {xs : List (NestedKey × Addr × Value)} (r : NRel H kvs xs) (ok : HOk P w H h) : ∀ x ∈ xs, (nestedKind P w).is h x.1 x.2.1 := by
  induction r with
  | nil => intro y hy; cases hy
  | @cons p q ps qs hh t ih =>
    intro y hy
    rcases List.mem_cons.mp hy with e | hy
    · subst e
      rw [hh.1]
      exact hh.2.1.is ok
    · exact ih y hy
theorem RkAt.ext {P : Program} {w : World} {H H' : Hp} {a : Addr} {kvs : List (NK × Int)} (x : RkAt P w H a kvs) (e : ∀ b o, H b = some o → H' b = some o) : RkAt P w H' a kvs := by
  obtain ⟨h1, h2, xs, h3, h4⟩ := x
  exact ⟨h1, h2, xs, e _ _ h3, h4.ext fun b ys q => e _ _ q⟩
theorem RkAt.keyed {P : Program} {w : World} {H : Hp} {h : Heap} {a : Addr} {kvs : List (NK × Int)} (x : RkAt P w H a kvs) (ok : HOk P w H h) :
    ∃ xs, H a = some (dN P w a xs) ∧ NRel H kvs xs ∧ h.DictOfH (nestedKind P w) a xs := by
  obtain ⟨_, _, xs, h3, h4⟩ := x
  obtain ⟨⟨o, es, ep, g1, g2, g3, g4, g5⟩, _, _⟩ := (show ObjOk P w H h a (dN P w a xs) from ok a _ h3)
  exact ⟨xs, h3, h4, o, es, ep, g1, g2, g3, g4, h4.all ok, g5⟩
end CF

namespace CF
open PySem L2
section
variable {X : Cx} {pins : List (Addr × Obj)} {σ : L2.St} {H : Hp} {s : Shared} {a b : Addr} {k : NK} {kvs : List (NK × Int)} {E : Value → Shared → Prop}
theorem rk_room {A : Around} (hu : A.units + 64 < cLine) : (nestedKind X.prog X.w).room A.in1 := by
  show A.units + 1 + 8 < cLine
  omega
theorem rk_in {Q : Value → Shared → Prop} (hu : X.A.units + 64 < cLine) (I : Inv X pins σ H s) (r : RkAt X.prog X.w H a kvs) (kb : NAt H b k)
    (q : ∀ s', Inv X pins σ H s' → Q (.bool (getN kvs k).isSome) s') : wpAny (model X.prog X.w) X.A (compareOp .In (.ref b) (.ref a)) Q E s := by
  obtain ⟨xs, _, rel, dd⟩ := r.keyed I.hok
  refine in_keyed (rk_room hu) (kb.is I.hok) r.2.1 ⟨xs, dd, rfl⟩ ?_
  have e := (rel.get k).isSome_eq
  rw [Option.isSome_map] at e
  rw [← e]
  exact q _ (I.tok _)
theorem rk_notIn {Q : Value → Shared → Prop} (hu : X.A.units + 64 < cLine) (I : Inv X pins σ H s) (r : RkAt X.prog X.w H a kvs) (kb : NAt H b k)
    (q : ∀ s', Inv X pins σ H s' → Q (.bool (!(getN kvs k).isSome)) s') : wpAny (model X.prog X.w) X.A (compareOp .NotIn (.ref b) (.ref a)) Q E s := by
  obtain ⟨xs, _, rel, dd⟩ := r.keyed I.hok
  refine notIn_keyed (rk_room hu) (kb.is I.hok) r.2.1 ⟨xs, dd, rfl⟩ ?_
  have e := (rel.get k).isSome_eq
  rw [Option.isSome_map] at e
  rw [← e]
  exact q _ (I.tok _)
theorem rk_item {v : Int} {Q : Value → Shared → Prop} (hu : X.A.units + 64 < cLine) (I : Inv X pins σ H s) (r : RkAt X.prog X.w H a kvs) (kb : NAt H b k) (hv : getN kvs k = some v)
    (q : ∀ u s', Inv X pins σ H s' → RelV (.int v) u → Q u s') : wpAny (model X.prog X.w) X.A (getItem (.ref a) (.ref b)) Q E s := by
  obtain ⟨xs, _, rel, dd⟩ := r.keyed I.hok
  have e := rel.get k
  rw [hv] at e
  obtain ⟨u, hu', ru⟩ := RelO.some_of e
  exact getItem_keyed (rk_room hu) (kb.is I.hok) ⟨xs, dd, rfl⟩ hu' (q u _ (I.tok _) ru)
theorem rk_get {Q : Value → Shared → Prop} (hu : X.A.units + 64 < cLine) (I : Inv X pins σ H s) (r : RkAt X.prog X.w H a kvs) (kb : NAt H b k)
    (q : ∀ u s', Inv X pins σ H s' → RelV (((getN kvs k).map V.int).getD .non) u → Q u s') : wpAny (model X.prog X.w) X.A (call (.builtin "dict.get") [.ref a, .ref b]) Q E s := by
  obtain ⟨xs, _, rel, dd⟩ := r.keyed I.hok
  exact get_keyed (rk_room hu) (kb.is I.hok) r.2.1 ⟨xs, dd, rfl⟩ (q _ _ (I.tok _) ((rel.get k).getD rfl))
/-- the dict behind a[b] = v -/
def RkPut (P : Program) (w : World) (H : Hp) (a : Addr) (b : Addr) (v : V) (H' : Hp → Prop) : Prop :=
  ∃ k kvs y, RkAt P w H a kvs ∧ NAt H b k ∧ v = .int y ∧ kvs.length < sizeLine ∧
    ∀ o, RkAt P w (upd H a o) a (putN kvs k y) → H' (upd H a o)
theorem rk_set {v : V} {u : Value} {Z : Hp → Prop} {Q : Unit → Shared → Prop} (hu : X.A.units + 64 < cLine) (I : Inv X pins σ H s) (g : RkPut X.prog X.w H a b v Z) (rv : RelV v u)
    (q : ∀ s' H', Inv X pins σ H' s' → Z H' → Q () s') : wpAny (model X.prog X.w) X.A (setItem (.ref a) (.ref b) u) Q E s := by
  obtain ⟨k, kvs, y, r, kb, ev, hl, z⟩ := g
  subst ev
  obtain ⟨xs, ha, rel, dd⟩ := r.keyed I.hok
  have lx : xs.length ≤ sizeLine := by
    rw [← Paired.length rel]
    omega
  refine wpAny_setItem_heap (hsz := lx) (rk_room hu) (kb.is I.hok) dd fun h' dd' hs => ?_
  obtain ⟨o, es, ep, g1, g2, g3, g4, g5, g6⟩ := id dd'
  have fin : dNraw X.prog X.w a (storedH xs (nkN k) b u) h' := ⟨o, es, ep, g1, g2, g3, g4, g6⟩
  have new : ObjOk X.prog X.w (upd H a (dN X.prog X.w a (storedH xs (nkN k) b u))) h' a (dN X.prog X.w a (storedH xs (nkN k) b u)) :=
    ⟨fin, ⟨o, g1⟩, fun h1 h2 ⟨o', es', ep', f1, f2⟩ st => ⟨o', es', ep', st _ f1, f2⟩⟩
  have mu : Mut (H a) := by
    rw [ha]
    trivial
  have J := d_write (t' := s.toks + (nestedKind X.prog X.w).draws (nkN k)) I mu hs ⟨o, g1⟩ new
  refine q _ _ J (z _ ⟨?_, r.2.1, _, upd_same, ?_⟩)
  · have := length_putN kvs k y
    omega
  · refine (rel.put k kb rv).ext fun c ys ec => ?_
    rw [upd_ne (ne_of ec ha (fun z => nomatch z))]
    exact ec
end

/-! ### rules -/
def tNIn (P : Program) (w : World) (f : Bool → Bool) (ty td : TE) : TE := fun σ H Q => ty σ H fun y H1 => td σ H1 fun x H2 =>
  ∃ a b k kvs, x = .ref a ∧ y = .ref b ∧ RkAt P w H2 a kvs ∧ NAt H2 b k ∧ Q (.bl (f (getN kvs k).isSome)) H2
def tNGet (P : Program) (w : World) (td ty : TE) : TE := fun σ H Q => td σ H fun x H1 => ty σ H1 fun y H2 =>
  ∃ a b k kvs v, x = .ref a ∧ y = .ref b ∧ RkAt P w H2 a kvs ∧ NAt H2 b k ∧ getN kvs k = some v ∧ Q (.int v) H2
def tNGet1 (P : Program) (w : World) (td ty : TE) : TE := fun σ H Q => td σ H fun x H1 => ∃ a kvs, x = .ref a ∧ RkAt P w H1 a kvs ∧ ty σ H1 fun y H2 =>
  ∃ b k, y = .ref b ∧ RkAt P w H2 a kvs ∧ NAt H2 b k ∧ Q (((getN kvs k).map V.int).getD .non) H2
def sNPut (P : Program) (w : World) (td ty tv : TE) : TS := fun D σ H => tv σ H fun v H1 => td σ H1 fun x H2 => ty σ H2 fun y H3 =>
  ∃ a b, x = .ref a ∧ y = .ref b ∧ RkPut P w H3 a b v fun H4 => D.nx σ H4
def tNNew (P : Program) (w : World) : TE := fun _ H Q => ∀ p o, H p = none → RkAt P w (upd H p o) p [] → Q (.ref p) (upd H p o)
section
variable {X : Cx} {o i e value : Expr} {pos pos' apos cpos : Pos} {td ty tv : TE}
theorem rk_typeIs {pins : List (Addr × Obj)} {σ : L2.St} {H : Hp} {s : Shared} {a : Addr} {kvs : List (NK × Int)} (I : Inv X pins σ H s) (r : RkAt X.prog X.w H a kvs) : s.TypeIs (.ref a) "dict" := by
  obtain ⟨xs, _, _, dd⟩ := r.keyed I.hok
  exact dd.typeIs
theorem pc_nin (hu : X.A.units + 64 < cLine) (hi : PE X i ty) (ho : PE X o td) : PC X .In i o (tNIn X.prog X.w (fun c => c) ty td) := by
  refine ⟨fun pins s σ H Q I h => ?_⟩
  refine thn (hi.run pins s σ H _ I h) fun iv s1 h1 => ?_
  obtain ⟨y, H1, I1, ry, q1⟩ := h1
  refine thn (ho.run pins s1 σ H1 _ I1 q1) fun u s2 h2 => ?_
  obtain ⟨x, H2, I2, rx, a, b, k, kvs, ex, ey, r, kb, q2⟩ := h2
  subst ex ey
  cases rx
  cases ry
  exact rk_in hu I2 r kb fun s3 I3 => ⟨.bl (getN kvs k).isSome, H2, I3, rfl, q2⟩
theorem pc_nnotin (hu : X.A.units + 64 < cLine) (hi : PE X i ty) (ho : PE X o td) : PC X .NotIn i o (tNIn X.prog X.w (fun c => !c) ty td) := by
  refine ⟨fun pins s σ H Q I h => ?_⟩
  refine thn (hi.run pins s σ H _ I h) fun iv s1 h1 => ?_
  obtain ⟨y, H1, I1, ry, q1⟩ := h1
  refine thn (ho.run pins s1 σ H1 _ I1 q1) fun u s2 h2 => ?_
  obtain ⟨x, H2, I2, rx, a, b, k, kvs, ex, ey, r, kb, q2⟩ := h2
  subst ex ey
  cases rx
  cases ry
  exact rk_notIn hu I2 r kb fun s3 I3 => ⟨.bl (!(getN kvs k).isSome), H2, I3, rfl, q2⟩
theorem pe_nget (hu : X.A.units + 64 < cLine) (ho : PE X o td) (hi : PE X i ty) (hs : NoSl i) : PE X (.Subscript o i pos) (tNGet X.prog X.w td ty) := by
  refine ⟨fun pins s σ H Q I h => ?_⟩
  refine subD_of PySem.F.slot_dict_getitem.lookup hs (thn (ho.run pins s σ H _ I h) fun u s1 h1 => ?_)
  obtain ⟨x, H1, I1, rx, q1⟩ := h1
  refine thn (hi.run pins s1 σ H1 _ I1 q1) fun iv s2 h2 => ?_
  obtain ⟨y, H2, I2, ry, a, b, k, kvs, v, ex, ey, r, kb, hv, q2⟩ := h2
  subst ex ey
  cases rx
  cases ry
  exact ⟨rk_typeIs I2 r, rk_item hu I2 r kb hv fun w' s3 I3 rw' => ⟨.int v, H2, I3, rw', q2⟩⟩
theorem ps_nput (hu : X.A.units + 64 < cLine) (ho : PE X o td) (hi : PE X i ty) (hv : PE X value tv) (hs : swapsWith value (some (.Subscript o i pos')) pos.line X.env = pure false) :
    PS X (.Assign [.Subscript o i pos'] value pos) (sNPut X.prog X.w td ty tv) := by
  refine ⟨fun pins s σ H D I h => ?_⟩
  refine wpAny_Assign_Subscript (thn (hv.run pins s σ H _ I h) fun r s1 h1 => ?_) hs
  obtain ⟨v, H1, I1, rv, q1⟩ := h1
  refine thn (ho.run pins s1 σ H1 _ I1 q1) fun u s2 h2 => ?_
  obtain ⟨x, H2, I2, rx, q2⟩ := h2
  refine thn (hi.run pins s2 σ H2 _ I2 q2) fun iv s3 h3 => ?_
  obtain ⟨y, H3, I3, ry, a, b, ex, ey, g⟩ := h3
  subst ex ey
  cases rx
  cases ry
  exact rk_set hu I3 g rv fun s4 H4 I4 q4 => ⟨σ, H4, I4, q4⟩
theorem pe_nnew : PE X (.Dict [] [] pos) (tNNew X.prog X.w) := by
  refine ⟨fun pins s σ H Q I h => ?_⟩
  have hn := I.hok.fresh (Nat.le_refl s.heap.objs.size)
  have big := I.big
  refine wpAny_Dict_empty ?_
  have raw : dNraw X.prog X.w s.heap.objs.size [] (s.heap.push { cls := .type "dict", data := .dict #[] }) := ⟨_, #[], 0, Heap.get?_push_size _ rfl, ⟨rfl, rfl, rfl⟩, rfl, rfl, List.nodup_nil⟩
  have new : ObjOk X.prog X.w (upd H s.heap.objs.size (dN X.prog X.w s.heap.objs.size [])) (s.heap.push { cls := .type "dict", data := .dict #[] }) s.heap.objs.size (dN X.prog X.w s.heap.objs.size []) :=
    ⟨raw, ⟨_, Heap.get?_push_size _ rfl⟩, fun h1 h2 ⟨o', es', ep', f1, f2⟩ st => ⟨o', es', ep', st _ f1, f2⟩⟩
  have J := I.laid (t' := s.toks) (fun _ _ q => Heap.get?_push_of_some _ q) (Nat.le_refl _) new
  exact ⟨.ref s.heap.objs.size, _, J, rfl, h _ _ hn ⟨Nat.zero_le _, beq_eq_false_iff_ne.mpr (Ne.symm (Nat.ne_of_lt big)), [], upd_same, .nil⟩⟩
theorem pe_nget1 (hu : X.A.units + 64 < cLine) (ho : PE X o td) (he : PE X e ty) (m : M1 X o "get" apos e cpos) : PE X (.Call (.Attribute o "get" apos) [e] [] cpos) (tNGet1 X.prog X.w td ty) := by
  refine ⟨fun pins s σ H Q I h => ?_⟩
  refine wpAny_Call_method m.base m.few m.line PySem.F.plainAttrs_dict PySem.F.slot_dict_get PySem.F.type_dict_get (thn (ho.run pins s σ H _ I h) fun u s1 h1 => ?_)
  obtain ⟨x, H1, I1, rx, a, kvs, ex, r, q1⟩ := h1
  subst ex
  cases rx
  obtain ⟨xs, _, _, dd⟩ := r.keyed I1.hok
  refine ⟨dd.typeIs, fun c hc => ?_, ?_⟩
  · cases hc
    obtain ⟨ob, _, _, g1, g2, _⟩ := dd
    exact ⟨ob, g1, g2.2.1⟩
  rw [m.trees]
  refine Calls.callWith_builtin rfl (Calls.evalArgs_plain (Calls.spliced_cons (thn (he.run pins s1 σ H1 _ I1 q1) fun iv s2 h2 => Calls.spliced_nil ?_)))
  obtain ⟨y, H2, I2, ry, b, k, ey, r2, kb, q2⟩ := h2
  subst ey
  cases ry
  exact rk_get hu I2 r2 kb fun w' s3 I3 rw' => ⟨_, H2, I3, rw', q2⟩
end
end CF

namespace CF
open PySem L2 PyProof.Rows
section
variable {X : Cx} {a b c d : Expr} {ta tb tc td : TE} {pos : Pos}
/-- four whole numbers in a row of comparisons, as a test -/
def tC4 (p q r : Int → Int → Bool) (ta tb tc td : TE) : TT := fun σ H Q => ta σ H fun x H1 => tb σ H1 fun y H2 => ∃ i j, x = .int i ∧ y = .int j ∧
  (if p i j = true then tc σ H2 fun z H3 => ∃ k, z = .int k ∧ (if q j k = true then td σ H3 fun u H4 => ∃ l, u = .int l ∧ Q (r k l) H4 else Q false H3) else Q false H2)
/-- how an operator compares whole numbers -/
def CmpI (X : Cx) (op : CmpOp) (p : Int → Int → Bool) : Prop := ∀ (i j : Int) (t u : Tok) (s : Shared) (Q : Value → Shared → Prop) (E : Value → Shared → Prop), Q (.bool (p i j)) s → wpAny (model X.prog X.w) X.A (compareOp op (.int i t) (.int j u)) Q E s
theorem ci_lt : CmpI X .Lt (fun i j => decide (i < j)) := fun _ _ _ _ _ _ _ q => lt_int q
theorem ci_le : CmpI X .LtE (fun i j => decide (i ≤ j)) := fun _ _ _ _ _ _ _ q => le_int q
theorem pt_chain4 {o1 o2 o3 : CmpOp} {p q r : Int → Int → Bool} (h1 : CmpI X o1 p) (h2 : CmpI X o2 q) (h3 : CmpI X o3 r) (ha : PE X a ta) (hb : PE X b tb) (hc : PE X c tc) (hd : PE X d td)
    (hm : lastMarks [o1, o2, o3] [b, c, d] = false := by with_unfolding_all rfl) : PT X (.Compare a [o1, o2, o3] [b, c, d] pos) (tC4 p q r ta tb tc td) := by
  refine ⟨fun pins s σ H Q I h => ?_⟩
  refine isTrue_chain (thn (ha.run pins s σ H _ I h) fun v s1 w1 => ?_) hm
  obtain ⟨x, H1, I1, r1, q1⟩ := w1
  refine test_link (thn (hb.run pins s1 σ H1 _ I1 q1) fun u s2 w2 => ?_)
  obtain ⟨y, H2, I2, r2, i, j, rfl, rfl, q2⟩ := w2
  obtain ⟨t1, rfl⟩ := r1
  obtain ⟨t2, rfl⟩ := r2
  refine h1 i j t1 t2 s2 _ _ (wpAny_truthy_bool ?_)
  cases hp : p i j with
  | false =>
    rw [hp] at q2
    exact ⟨H2, I2, q2⟩
  | true =>
    rw [hp] at q2
    refine test_link (thn (hc.run pins s2 σ H2 _ I2 q2) fun w s3 w3 => ?_)
    obtain ⟨z, H3, I3, r3, k, rfl, q3⟩ := w3
    obtain ⟨t3, rfl⟩ := r3
    refine h2 j k t2 t3 s3 _ _ (wpAny_truthy_bool ?_)
    cases hq : q j k with
    | false =>
      rw [hq] at q3
      exact ⟨H3, I3, q3⟩
    | true =>
      rw [hq] at q3
      refine test_last (thn (hd.run pins s3 σ H3 _ I3 q3) fun w s4 w4 => ?_)
      obtain ⟨z, H4, I4, r4, l, rfl, q4⟩ := w4
      obtain ⟨t4, rfl⟩ := r4
      exact h3 k l t3 t4 s4 _ _ (wpAny_truthy_bool ⟨H4, I4, q4⟩)

/-- (a, b) >= (c, d) -/
def geP (p q : Int × Int) : Bool := if p.1 = q.1 then decide (q.2 ≤ p.2) else decide (q.1 ≤ p.1)
def rGeP (K : PySem.W.Frag) : R2 := fun x y H Q => ∃ (a b : Addr) (p q : Int × Int), x = .ref a ∧ y = .ref b ∧ SqT K H a [.int p.1, .int p.2] ∧ SqT K H b [.int q.1, .int q.2] ∧ Q (.bl (geP p q)) H
theorem op_geP (hu : X.A.units < cLine) : OpR X (compareOp .GtE) (rGeP X.K) := by
  intro pins s σ H x y v u Q I rx ry h
  obtain ⟨a, b, p, q, rfl, rfl, ha, hb, qq⟩ := h
  cases rx
  cases ry
  obtain ⟨its, r1, p1, _⟩ := I.tuple ha
  obtain ⟨its2, r2, p2, _⟩ := I.tuple hb
  obtain ⟨u1, u2, rfl, ⟨t1, rfl⟩, ⟨t2, rfl⟩⟩ := vals2 r1
  obtain ⟨w1, w2, rfl, ⟨t3, rfl⟩, ⟨t4, rfl⟩⟩ := vals2 r2
  have R := Ob.RcOp.tuples_ge (A := X.A) (s := s) (e := fun j => if j = 0 then decide (p.1 = q.1) else decide (p.2 = q.2)) (r := fun j => if j = 0 then decide (q.1 ≤ p.1) else decide (q.2 ≤ p.2)) p1 p2 hu
    (fun j h1 h2 => by
      have hj : j = 0 ∨ j = 1 := by
        simp at h1
        omega
      rcases hj with rfl | rfl
      · have e : (p.1 == q.1) = decide (p.1 = q.1) := by rw [Bool.beq_eq_decide_eq]
        show SeqAt.EqAt X.A.in1 s (.int p.1 t1) (.int q.1 t3) (if 0 = 0 then decide (p.1 = q.1) else decide (p.2 = q.2))
        rw [if_pos rfl, ← e]
        exact SeqAt.EqAt.int_int _ _ _ _
      · have e : (p.2 == q.2) = decide (p.2 = q.2) := by rw [Bool.beq_eq_decide_eq]
        show SeqAt.EqAt X.A.in1 s (.int p.2 t2) (.int q.2 t4) (if 1 = 0 then decide (p.1 = q.1) else decide (p.2 = q.2))
        rw [if_neg (by decide), ← e]
        exact SeqAt.EqAt.int_int _ _ _ _)
    (fun j h1 h2 _ => by
      have hj : j = 0 ∨ j = 1 := by
        simp at h1
        omega
      rcases hj with rfl | rfl
      · exact Ob.RcOp.ge_int _ _ _ _
      · exact Ob.RcOp.ge_int _ _ _ _)
  refine R X.prog X.w X.xe (EP X pins σ Q) ⟨.bl (geP p q), H, I, ?_, qq⟩
  show Value.bool _ = Value.bool _
  congr 1
  show (if (if 0 = 0 then decide (p.1 = q.1) else decide (p.2 = q.2)) = true then (if (if 1 = 0 then decide (p.1 = q.1) else decide (p.2 = q.2)) = true then decide (2 ≥ 2) else _) else _) = geP p q
  unfold geP
  by_cases e1 : p.1 = q.1
  · by_cases e2 : p.2 = q.2
    · simp [e1, e2]
    · simp [e1, e2]
  · simp [e1]
end
end CF

namespace CF
open PySem L2 PyProof.Rows
/-- the values ys are pairs of whole numbers: ps -/
abbrev PrsV (H : Hp) : List V → List (Int × Int) → Prop := Paired fun y p => ∃ t, y = V.ref t ∧ H t = some (.tup [.int p.1, .int p.2])
theorem PrsV.ext {H H' : Hp} {ys : List V} {ps : List (Int × Int)} (h : PrsV H ys ps) (e : ∀ b o, H b = some o → H' b = some o) : PrsV H' ys ps :=
  Paired.mapP h fun _ _ ⟨t, a, b⟩ => ⟨t, a, e _ _ b⟩
/-- which pair stands there -/
def kP (H : Hp) : V → Int × Int
  | .ref t => match H t with
    | some (.tup [.int i, .int j]) => (i, j)
    | _ => (0, 0)
  | _ => (0, 0)
theorem kP_at {H : Hp} {t : Addr} {p : Int × Int} (h : H t = some (.tup [.int p.1, .int p.2])) : kP H (.ref t) = p := by
  show (match H t with | some (.tup [.int i, .int j]) => (i, j) | _ => (0, 0)) = p
  rw [h]
theorem PrsV.map {H : Hp} {ys : List V} {ps : List (Int × Int)} (h : PrsV H ys ps) : ps = ys.map (kP H) := by
  induction h with
  | nil => rfl
  | @cons y p ys ps hh t ih =>
    obtain ⟨a, rfl, e⟩ := hh
    rw [List.map_cons, kP_at e, ← ih]
theorem PrsV.mem {H : Hp} {ys : List V} {ps : List (Int × Int)} (h : PrsV H ys ps) : ∀ y ∈ ys, ∃ t, y = V.ref t ∧ H t = some (.tup [.int (kP H y).1, .int (kP H y).2]) := by
  induction h with
  | nil => intro y hy; cases hy
  | @cons y p ys ps hh t ih =>
    intro z hz
    rcases List.mem_cons.mp hz with e | hz
    · subst e
      obtain ⟨a, rfl, e⟩ := hh
      exact ⟨a, rfl, by rw [kP_at e]; exact e⟩
    · exact ih z hz
theorem PrsV.of_mem {H : Hp} : ∀ {ys : List V}, (∀ y ∈ ys, ∃ t, y = V.ref t ∧ H t = some (.tup [.int (kP H y).1, .int (kP H y).2])) → PrsV H ys (ys.map (kP H))
  | [], _ => .nil
  | y :: ys, h => .cons (h y List.mem_cons_self) (PrsV.of_mem fun z hz => h z (List.mem_cons_of_mem _ hz))
/-- rising, by the first, then by the second -/
abbrev SrtP (ps : List (Int × Int)) : Prop := SrtO.Srtd SrtO.lexB ps
section
variable {X : Cx}
/-- sorted of a list of pairs -/
def rSrtL (K : PySem.W.Frag) : List V → Hp → VK → Prop := fun vs H Q => ∃ (a : Addr) (xs : List V) (ps : List (Int × Int)), vs = [V.ref a] ∧ SqL K H a xs ∧ PrsV H xs ps ∧
  ∀ ys qs p, SrtP qs → qs.Perm ps → PrsV H ys qs → H p = none → Q (.ref p) (upd H p (.lst ys))
theorem cr_srtL : CallR X (.builtin "sorted") (rSrtL X.K) := by
  intro pins s σ H vs us Q I r h
  obtain ⟨a, xs, ps, ev, hs, hp, q⟩ := h
  refine cr_sortedPO pins s σ H vs us Q I r ⟨a, xs, kP H, ev, hs, hp.mem, fun ys p h1 h2 h3 => ?_⟩
  refine q ys (ys.map (kP H)) p (SrtO.srtd_map (lt := SrtO.lexB) (f := kP H) h1) ?_ ?_ h3
  · rw [hp.map]
    exact h2.perm.map _
  · exact PrsV.of_mem fun y hy => hp.mem y (h2.perm.mem_iff.mp hy)
/-- a key of two whole numbers -/
def kyP (p : Int × Int) : List Key := [Sum.inl p.1, Sum.inl p.2]
/-- sorted of a dict whose keys are pairs -/
def rSrtD : List V → Hp → VK → Prop := fun vs H Q => ∃ (a : Addr) (kvs : List (List Key × V)) (ps : List (Int × Int)), vs = [V.ref a] ∧ Rd H a (.dT kvs) ∧ kvs.map (·.1) = ps.map kyP ∧
  ∀ ys qs p, SrtP qs → qs.Perm ps → PrsV H ys qs → H p = none → Q (.ref p) (upd H p (.lst ys))
theorem KT.prs {H : Hp} {kvs : List (List Key × V)} {xs : List (List Key × Addr × Value)} (r : KT H kvs xs) : ∀ {ps : List (Int × Int)}, kvs.map (·.1) = ps.map kyP → PrsV H (xs.map fun x => V.ref x.2.1) ps := by
  induction r with
  | nil =>
    intro ps e
    cases ps with
    | nil => exact .nil
    | cons _ _ => simp at e
  | @cons p q as bs hh t ih =>
    intro ps e
    cases ps with
    | nil => simp at e
    | cons z ps =>
      rw [List.map_cons, List.map_cons] at e
      injection e with e1 e2
      refine .cons ⟨q.2.1, rfl, ?_⟩ (ih e2)
      have := hh.2.1
      rw [e1] at this
      exact this
theorem cr_srtD (hcalm : X.calm = true) : CallR X (.builtin "sorted") rSrtD := by
  intro pins s σ H vs us Q I r h
  obtain ⟨a, kvs, ps, rfl, hd, hk, q⟩ := h
  obtain ⟨u, rfl, ru⟩ := vals1 r
  cases ru
  obtain ⟨z, lo, xs, rel, dd⟩ := dt_rd I.hok hd
  obtain ⟨o, es, ep, g1, g2, g3, g4, g5, g6⟩ := id dd
  have prs := KT.prs rel hk
  have hes : es.size = xs.length := by
    rw [← Array.length_toList, g4, List.length_map]
  have hxl : xs.length ≤ sizeLine := by
    rw [← Paired.length rel]
    exact z
  have raw : s.heap.DictRaw a es ep := ⟨o, g1, g2, g3⟩
  refine Calls.call_function_entry kind_sorted plain_sorted entry_sorted (args_sorted1 _) ?_
  unfold Builtin.«sorted»
  refine wpAny_bind (m := checkCount "sorted" 1 1 _) (wpAny_pure ?_)
  refine wpAny_bind (PySem.W.kdu_collect (A := X.A.in1) (KdlSrc.rawDict (es := es) (ep := ep) lo) (I.ok.hd hcalm) raw (by rw [hes]; exact hxl) fun h' tk acc hkp hacc => ?_)
  have hal : acc.toList = xs.map fun x => Value.ref x.2.1 := by
    refine List.ext_getElem? fun j => ?_
    cases e : acc.toList[j]? with
    | none =>
      have h1 := List.getElem?_eq_none_iff.mp e
      rw [Array.length_toList, hacc.1, hes] at h1
      rw [List.getElem?_eq_none_iff.mpr (by rw [List.length_map]; exact h1)]
    | some v =>
      obtain ⟨hj, ev⟩ := hacc.2 j v (by rw [← Array.getElem?_toList]; exact e)
      subst ev
      have h2 : es.toList[j]? = some es[j] := by
        rw [Array.getElem?_toList]
        exact Array.getElem?_eq_getElem hj
      rw [g4, List.getElem?_map] at h2
      obtain ⟨x, hx, ex⟩ := Option.map_eq_some_iff.mp h2
      rw [List.getElem?_map, hx, ← ex]
      rfl
  have I1 : Inv X pins σ H { s with heap := h', toks := tk } := I.kept hkp
  have hlen : acc.toList.length ≤ sizeLine := by
    rw [hal, List.length_map]
    exact hxl
  refine wpAny_bind (wpAny_newList ?_ hlen)
  have hoL : (h'.push (seqObj "list" acc.toList.toArray 0)).get? h'.objs.size = some (seqObj "list" acc.toList.toArray 0) := Heap.get?_push_size _ rfl
  have keep : ∀ b o, h'.get? b = some o → b ≠ h'.objs.size ∧ (h'.push (seqObj "list" acc.toList.toArray 0)).get? b = some o := fun b o e => ⟨Nat.ne_of_lt (Heap.lt_size e), Heap.get?_push_of_some _ e⟩
  -- every item is a pair
  have hback : ∀ v ∈ acc.toList, ∃ t, v = Value.ref t ∧ H t = some (.tup [.int (kP H (backV v)).1, .int (kP H (backV v)).2]) := fun v hv => by
    rw [hal] at hv
    obtain ⟨x, hx, rfl⟩ := List.mem_map.mp hv
    obtain ⟨t, e, ht⟩ := prs.mem (V.ref x.2.1) (List.mem_map.mpr ⟨x, hx, rfl⟩)
    cases e
    exact ⟨_, rfl, ht⟩
  have hpair : ∀ v ∈ acc.toList, Srt.IsPair h' v (kP H (backV v)).1 (kP H (backV v)).2 := fun v hv => by
    obtain ⟨t, rfl, ht⟩ := hback v hv
    obtain ⟨_, its2, r2, o, ho, hc, n, hd⟩ := I1.hok _ _ ht
    obtain ⟨u1, u2, rfl, ⟨t1, rfl⟩, ⟨t2, rfl⟩⟩ := vals2 r2
    exact ⟨t, o, t1, t2, n, rfl, ho, hc, hd⟩
  show wpAny _ _ _ _ _ { s with heap := h'.push (seqObj "list" acc.toList.toArray 0), toks := tk }
  refine wpAny_bind (wpAny_holding (wpAny_call_entry slot_list_sort ⟨_, hoL, rfl⟩ entry_list_sort
    (SrtO.list_sort_ord (s := { s with heap := h'.push (seqObj "list" acc.toList.toArray 0), toks := tk }) (SrtO.swo_lex fun v => kP H (backV v)) hoL hlen (fun h2 => ?_) fun out hs hb => ⟨_, rfl, ?_⟩) (args_list_sort _)))
  · refine SrtO.pairs_sortableO (s := { s with heap := h'.push (seqObj "list" acc.toList.toArray 0), toks := tk }) (by omega) (fun v hm => (hpair v hm).keeps fun b o e _ => (keep b o e).2) fun o e => ?_
    have e' : some o = some (seqObj "list" acc.toList.toArray 0) := e.symm.trans hoL
    cases e'
    intro c
    exact absurd (Value.type.inj c) (by decide)
  · obtain ⟨e', he'⟩ := sortedHeap_at (vs := acc.toList) (out := out.toArray) hoL
    have hrefs : ∀ u ∈ out, ∃ a, u = Value.ref a := fun u hu => by
      obtain ⟨t, e, _⟩ := hback u (hb.perm.mem_iff.mp hu)
      exact ⟨t, e⟩
    have new : ObjOk X.prog X.w (upd H h'.objs.size (.lst (out.map backV))) (sortedHeap (h'.push (seqObj "list" acc.toList.toArray 0)) h'.objs.size acc.toList out.toArray) h'.objs.size (.lst (out.map backV)) :=
      ⟨by rw [List.length_map, hb.len]; exact hlen, out, e', vals_back hrefs, he'⟩
    refine wpAny_pure ⟨_, rfl, .ref h'.objs.size, upd H h'.objs.size (.lst (out.map backV)), I1.laid (t' := tk) (fun b u e => ?_) (Nat.le_refl _) new, rfl, ?_⟩
    · have hlt : b < h'.objs.size := Heap.lt_size e
      rw [sortedHeap_old (Nat.ne_of_lt hlt) (by rw [size_push']; exact Nat.lt_succ_of_lt hlt)]
      exact Heap.get?_push_of_some _ e
    · refine q _ ((out.map backV).map (kP H)) _ ?_ ?_ ?_ (I1.hok.fresh (Nat.le_refl _))
      · rw [List.map_map]
        exact SrtO.srtd_map (lt := SrtO.lexB) (f := kP H ∘ backV) hs
      · rw [prs.map]
        have e1 : (xs.map fun x => V.ref x.2.1) = acc.toList.map backV := by
          rw [hal, List.map_map]
          rfl
        rw [e1]
        exact (hb.perm.map _).map _
      · refine PrsV.of_mem fun y hy => ?_
        obtain ⟨v, hv, rfl⟩ := List.mem_map.mp hy
        obtain ⟨t, rfl, ht⟩ := hback v (hb.perm.mem_iff.mp hv)
        exact ⟨t, rfl, ht⟩
end
end CF

/-! Views: what of the heap stands still for good. -/
namespace CF
open PySem L2 PyProof.Rows
/-- from the view F0 of H0 to the view F of H: nothing that was tracked is lost, what is new in the view is new in the heap -/
structure Grow (F0 H0 F H : Hp) : Prop where
  ss : Same F0 F
  sub : Same F H
  keep : Same H0 H
  new : ∀ b o, F b = some o → F0 b = some o ∨ H0 b = none ∨ ∃ xs, o = .tup xs
theorem Grow.refl {F H : Hp} (s : Same F H) : Grow F H F H := ⟨Same.refl _, s, Same.refl _, fun _ _ h => .inl h⟩
theorem Grow.trans {F0 H0 F1 H1 F2 H2 : Hp} (a : Grow F0 H0 F1 H1) (b : Grow F1 H1 F2 H2) : Grow F0 H0 F2 H2 :=
  ⟨a.ss.trans b.ss, b.sub, a.keep.trans b.keep, fun c o h => by
    rcases b.new c o h with h | h | h
    · exact a.new c o h
    · exact .inr (.inl (a.keep.free h))
    · exact .inr (.inr h)⟩
theorem same_new {H : Hp} {p : Addr} (o : HO) (h : H p = none) : Same H (upd H p o) := fun b u e => by
  rw [upd_ne (ne_of_none e h)]
  exact e
section
variable {F0 H0 F H F' H' : Hp} {p l : Addr} {o u : HO}
/-- a new thing that stands still -/
theorem Grow.alloc (g : Grow F0 H0 F H) (o : HO) (h : H p = none) : Grow F0 H0 (upd F p o) (upd H p o) := by
  have hF : F p = none := g.sub.free h
  refine ⟨g.ss.trans (same_new o hF), fun b v e => ?_, g.keep.trans (same_new o h), fun b v e => ?_⟩
  · by_cases c : b = p
    · subst c
      rw [upd_same] at e ⊢
      exact e
    · rw [upd_ne c] at e ⊢
      exact g.sub b v e
  · by_cases c : b = p
    · subst c
      exact .inr (.inl (g.keep.free h))
    · rw [upd_ne c] at e
      exact g.new b v e
/-- a new thing that may change -/
theorem Grow.hid (g : Grow F0 H0 F H) (o : HO) (h : H p = none) : Grow F0 H0 F (upd H p o) :=
  ⟨g.ss, g.sub.trans (same_new o h), g.keep.trans (same_new o h), g.new⟩
/-- it changes -/
theorem Grow.mut (g : Grow F0 H0 F H) (o : HO) (h : F l = none) (h0 : H0 l = none) : Grow F0 H0 F (upd H l o) := by
  refine ⟨g.ss, fun b v e => ?_, fun b v e => ?_, g.new⟩
  · rw [upd_ne (ne_of_none e h)]
    exact g.sub b v e
  · rw [upd_ne (ne_of_none e h0)]
    exact g.keep b v e
/-- from now on it stands still -/
theorem Grow.fix (g : Grow F0 H0 F H) (h : H l = some o) (hF : F l = none) (h0 : H0 l = none) : Grow F0 H0 (upd F l o) H := by
  refine ⟨g.ss.trans (same_new o hF), fun b v e => ?_, g.keep, fun b v e => ?_⟩
  · by_cases c : b = l
    · subst c
      rw [upd_same] at e
      rw [← e]
      exact h
    · rw [upd_ne c] at e
      exact g.sub b v e
  · by_cases c : b = l
    · subst c
      exact .inr (.inl h0)
    · rw [upd_ne c] at e
      exact g.new b v e
/-- a tuple of the heap may come into the view: it never changes -/
theorem Grow.tupl {xs : List V} (g : Grow F0 H0 F H) (h : H p = some (.tup xs)) : Grow F0 H0 (upd F p (.tup xs)) H := by
  refine ⟨fun b v e => ?_, fun b v e => ?_, g.keep, fun b v e => ?_⟩
  · by_cases c : b = p
    · subst c
      have := g.sub _ _ (g.ss _ _ e)
      rw [h] at this
      rw [upd_same, this]
    · rw [upd_ne c]
      exact g.ss b v e
  · by_cases c : b = p
    · subst c
      rw [upd_same] at e
      rw [← e]
      exact h
    · rw [upd_ne c] at e
      exact g.sub b v e
  · by_cases c : b = p
    · subst c
      rw [upd_same] at e
      exact .inr (.inr ⟨xs, (Option.some.inj e).symm⟩)
    · rw [upd_ne c] at e
      exact g.new b v e
theorem Grow.tupl_ss {xs : List V} (s : Same F H) (h : H p = some (.tup xs)) : Same F (upd F p (.tup xs)) := fun b v e => by
  by_cases c : b = p
  · subst c
    have := s _ _ e
    rw [h] at this
    rw [upd_same, this]
  · rw [upd_ne c]
    exact e
/-- what is out of the view, and no tuple, stays out of it -/
theorem Grow.out (g : Grow F H F' H') (h : H l = some o) (hF : F l = none) (ho : ∀ xs, o ≠ .tup xs := by intro xs z; cases z) : F' l = none := by
  cases e : F' l with
  | none => rfl
  | some v =>
    rcases g.new l v e with c | c | ⟨xs, c⟩
    · rw [hF] at c; cases c
    · rw [h] at c; cases c
    · have h1 := g.keep _ _ h
      have h2 := g.sub _ _ e
      rw [h1] at h2
      exact (ho xs (by rw [← c]; exact Option.some.inj h2)).elim
end

/-! ### what a value is, in a view -/
def nv (k : Nat) : V := .int (k : Int)
/-- a list of things -/
def LstOf {α : Type} (R : Hp → V → α → Prop) (F : Hp) (v : V) (xs : List α) : Prop := ∃ a ys, v = .ref a ∧ F a = some (.lst ys) ∧ Paired (R F) ys xs
/-- places: a list of them, a tuple of them, a list of lists, a list of tuples -/
def NatL (F : Hp) (v : V) (ks : List Nat) : Prop := ∃ a, v = .ref a ∧ F a = some (.lst (ks.map nv))
def NatT (F : Hp) (v : V) (ks : List Nat) : Prop := ∃ a, v = .ref a ∧ F a = some (.tup (ks.map nv))
def PairT (F : Hp) (v : V) (p : Int × Int) : Prop := ∃ t, v = .ref t ∧ F t = some (.tup [.int p.1, .int p.2])
def PairL (F : Hp) (v : V) (ps : List (Int × Int)) : Prop := LstOf PairT F v ps
def NatLL (F : Hp) (v : V) (l : List (List Nat)) : Prop := LstOf NatL F v l
def NatTL (F : Hp) (v : V) (l : List (List Nat)) : Prop := LstOf NatT F v l
section
variable {F F' : Hp} {v : V} (e : Same F F')
include e
theorem NatL.ext {ks : List Nat} (h : NatL F v ks) : NatL F' v ks := by
  obtain ⟨a, h1, h2⟩ := h
  exact ⟨a, h1, e _ _ h2⟩
theorem NatT.ext {ks : List Nat} (h : NatT F v ks) : NatT F' v ks := by
  obtain ⟨a, h1, h2⟩ := h
  exact ⟨a, h1, e _ _ h2⟩
theorem PairT.ext {p : Int × Int} (h : PairT F v p) : PairT F' v p := by
  obtain ⟨a, h1, h2⟩ := h
  exact ⟨a, h1, e _ _ h2⟩
omit e in
theorem paired_ext {α : Type} {R : Hp → V → α → Prop} (hR : ∀ v x, R F v x → R F' v x) {ys : List V} {xs : List α} (h : Paired (R F) ys xs) : Paired (R F') ys xs := Paired.mapP h fun _ _ z => hR _ _ z
theorem LstOf.ext {α : Type} {R : Hp → V → α → Prop} (hR : ∀ v x, R F v x → R F' v x) {xs : List α} (h : LstOf R F v xs) : LstOf R F' v xs := by
  obtain ⟨a, ys, h1, h2, h3⟩ := h
  exact ⟨a, ys, h1, e _ _ h2, paired_ext hR h3⟩
theorem PairL.ext {ps : List (Int × Int)} (h : PairL F v ps) : PairL F' v ps := LstOf.ext e (fun _ _ => PairT.ext e) h
theorem NatLL.ext {l : List (List Nat)} (h : NatLL F v l) : NatLL F' v l := LstOf.ext e (fun _ _ => NatL.ext e) h
theorem NatTL.ext {l : List (List Nat)} (h : NatTL F v l) : NatTL F' v l := LstOf.ext e (fun _ _ => NatT.ext e) h
end
theorem paired_get {α β : Type} {R : α → β → Prop} {ys : List α} {xs : List β} (h : Paired R ys xs) : ∀ {i : Nat} {x : β}, xs[i]? = some x → ∃ y, ys[i]? = some y ∧ R y x := by
  induction h with
  | nil =>
    intro i x e
    simp at e
  | cons r t ih =>
    intro i x e
    cases i with
    | zero =>
      simp at e
      subst e
      exact ⟨_, rfl, r⟩
    | succ i =>
      simp at e
      obtain ⟨y, h1, h2⟩ := ih e
      exact ⟨y, by simpa using h1, h2⟩
theorem paired_get' {α β : Type} {R : α → β → Prop} {ys : List α} {xs : List β} (h : Paired R ys xs) : ∀ {i : Nat} {y : α}, ys[i]? = some y → ∃ x, xs[i]? = some x ∧ R y x := by
  induction h with
  | nil =>
    intro i x e
    simp at e
  | cons r t ih =>
    intro i x e
    cases i with
    | zero =>
      simp at e
      subst e
      exact ⟨_, rfl, r⟩
    | succ i =>
      simp at e
      obtain ⟨y, h1, h2⟩ := ih e
      exact ⟨y, by simpa using h1, h2⟩
theorem paired_app {α β : Type} {R : α → β → Prop} {ys ys' : List α} {xs xs' : List β} (h : Paired R ys xs) (h' : Paired R ys' xs') : Paired R (ys ++ ys') (xs ++ xs') := by
  induction h with
  | nil => exact h'
  | cons r t ih => exact .cons r ih
theorem paired_len {α β : Type} {R : α → β → Prop} {ys : List α} {xs : List β} (h : Paired R ys xs) : ys.length = xs.length := by
  induction h with
  | nil => rfl
  | cons r t ih => simp [ih]
theorem prsV_of {F : Hp} {ys : List V} {ps : List (Int × Int)} (h : Paired (PairT F) ys ps) : PrsV F ys ps := h
theorem getElem?_map_nv {ks : List Nat} {i : Nat} {v : V} (h : (ks.map nv)[i]? = some v) : ∃ k, ks[i]? = some k ∧ v = nv k := by
  rw [List.getElem?_map] at h
  cases e : ks[i]? with
  | none => rw [e] at h; cases h
  | some k => rw [e] at h; exact ⟨k, rfl, (Option.some.inj h).symm⟩

/-! ### tests -/
theorem iteDT {p A B : Prop} [Decidable p] (h : p) (k : A) : if decide p = true then A else B := by
  rw [decide_eq_true h]
  exact iteT k
theorem iteDF {p A B : Prop} [Decidable p] (h : ¬ p) (k : B) : if decide p = true then A else B := by
  rw [decide_eq_false h]
  exact iteF k
theorem iteNT {p A B : Prop} [Decidable p] (h : ¬ p) (k : A) : if (!decide p) = true then A else B := by
  rw [decide_eq_false h]
  exact iteT k
theorem iteNF {p A B : Prop} [Decidable p] (h : p) (k : B) : if (!decide p) = true then A else B := by
  rw [decide_eq_true h]
  exact iteF k
theorem iteBT {b : Bool} {A B : Prop} (h : b = true) (k : A) : if b = true then A else B := by
  rw [h]
  exact iteT k
theorem iteBF {b : Bool} {A B : Prop} (h : b = false) (k : B) : if b = true then A else B := by
  rw [h]
  exact iteF k
theorem iteMT {b : Bool} {A B : Prop} (h : b = false) (k : A) : if (!b) = true then A else B := by
  rw [h]
  exact iteT k
theorem iteMF {b : Bool} {A B : Prop} (h : b = true) (k : B) : if (!b) = true then A else B := by
  rw [h]
  exact iteF k

/-! ### pairs as data -/
def dPr (p : Int × Int) : PyData := .tuple [.int p.1, .int p.2]
theorem dPr_eqv (p q : Int × Int) : PyData.eqv (dPr p) (dPr q) = decide (p = q) := by
  obtain ⟨a, b⟩ := p
  obtain ⟨c, d⟩ := q
  simp [dPr, PyData.eqv, PyData.eqvAll, Prod.mk.injEq, Bool.beq_eq_decide_eq, Bool.decide_and]
theorem dPr_shaped (p : Int × Int) : SeqAt.shaped (dPr p) = true := by
  simp [SeqAt.shaped, dPr, PyData.canLay0, PyData.canLayAll0, PyData.depth, PyData.depthAll]
theorem dPrs_lay : ∀ ps : List (Int × Int), PyData.canLayAll0 (ps.map dPr) = true
  | [] => rfl
  | p :: ps => by
    rw [List.map_cons, PyData.canLayAll0, dPrs_lay ps]
    simp [dPr, PyData.canLay0, PyData.canLayAll0]
theorem dPrs_depth : ∀ ps : List (Int × Int), PyData.depthAll (ps.map dPr) ≤ 1
  | [] => by simp [PyData.depthAll]
  | p :: ps => by
    have ih := dPrs_depth ps
    rw [List.map_cons, PyData.depthAll]
    simp [dPr, PyData.depth, PyData.depthAll]
    omega
theorem dPrs_shaped (ps : List (Int × Int)) : SeqAt.shaped (.list (ps.map dPr)) = true := by
  have h1 := dPrs_lay ps
  have h2 := dPrs_depth ps
  simp only [SeqAt.shaped, PyData.canLay0, PyData.depth, h1, Bool.true_and]
  exact decide_eq_true (by omega)
theorem PairT.dp {K : PySem.W.Frag} {H : Hp} {v : V} {p : Int × Int} (h : PairT H v p) : Dp K H v (dPr p) := by
  obtain ⟨t, rfl, e⟩ := h
  exact .tup (SqT.of e) (.cons (.int _) (.cons (.int _) .nil))
theorem prs_dp {K : PySem.W.Frag} {H : Hp} {ys : List V} {ps : List (Int × Int)} (h : Paired (PairT H) ys ps) : DpAll K H ys (ps.map dPr) := by
  induction h with
  | nil => exact .nil
  | cons r t ih => exact .cons r.dp ih
theorem PairL.dp {K : PySem.W.Frag} {H : Hp} {v : V} {ps : List (Int × Int)} (h : PairL H v ps) : Dp K H v (.list (ps.map dPr)) := by
  obtain ⟨a, ys, rfl, e, r⟩ := h
  exact .lst (SqL.of e) (prs_dp r)
end CF

namespace CF
open PySem L2 PyProof.Rows
/-! ### which places are reached: the mirror -/
def addR (R : List Int) (x : Int) : List Int := if x ∈ R then R else R ++ [x]
def rStep (R : List Int) (d : Int × Int) : List Int := if d.1 ∈ R ∨ d.2 ∈ R then addR (addR R d.1) d.2 else R
def rLap (ds : List (Int × Int)) (R : List Int) : List Int := ds.foldl rStep R
def rLaps (ds : List (Int × Int)) : Nat → List Int
  | 0 => [0]
  | k + 1 => rLap ds (rLaps ds k)
def reachedB (n : Nat) (ds : List (Int × Int)) : Bool := (rLaps ds n).length == n
/-- the dict: each of these with True -/
def rDict (R : List Int) : List (Key × V) := R.map fun x => ((Sum.inl x : Key), V.bl true)
theorem rDict_val (x : Int) : ∀ R : List Int, valV (rDict R) (Sum.inl x : Key) = if x ∈ R then some (.bl true) else none
  | [] => rfl
  | y :: R => by
    have ih := rDict_val x R
    unfold rDict at ih ⊢
    rw [List.map_cons]
    by_cases e : y = x
    · subst e
      rw [valV_pos rfl, if_pos List.mem_cons_self]
    · have e' : ¬ (Sum.inl y : Key) = Sum.inl x := fun z => e (Sum.inl.inj z)
      rw [valV_neg e', ih]
      have : (x ∈ y :: R) ↔ x ∈ R := by
        rw [List.mem_cons]
        constructor
        · rintro (h | h)
          · exact absurd h.symm e
          · exact h
        · exact .inr
      by_cases c : x ∈ R
      · rw [if_pos c, if_pos (this.mpr c)]
      · rw [if_neg c, if_neg (fun z => c (this.mp z))]
theorem rDict_isSome (x : Int) (R : List Int) : (valV (rDict R) (Sum.inl x : Key)).isSome = decide (x ∈ R) := by
  rw [rDict_val]
  by_cases c : x ∈ R
  · rw [if_pos c, decide_eq_true c]
    rfl
  · rw [if_neg c, decide_eq_false c]
    rfl
theorem rDict_put (x : Int) (R : List Int) : putK (rDict R) (Sum.inl x : Key) (.bl true) = rDict (addR R x) := by
  unfold putK addR
  rw [valV_any, rDict_isSome]
  by_cases c : x ∈ R
  · rw [if_pos c, if_pos (decide_eq_true c)]
    unfold rDict
    rw [List.map_map]
    refine List.map_congr_left fun y _ => ?_
    show (if (Sum.inl y : Key) = Sum.inl x then _ else _) = _
    split <;> rfl
  · rw [if_neg c, if_neg (by simpa using c)]
    unfold rDict
    rw [List.map_append]
    rfl
theorem rDict_length (R : List Int) : (rDict R).length = R.length := List.length_map ..
theorem addR_length (R : List Int) (x : Int) : (addR R x).length ≤ R.length + 1 := by
  unfold addR
  split
  · omega
  · simp
theorem rStep_length (R : List Int) (d : Int × Int) : (rStep R d).length ≤ R.length + 2 := by
  unfold rStep
  split
  · have h1 := addR_length R d.1
    have h2 := addR_length (addR R d.1) d.2
    omega
  · omega
theorem foldl_rStep_length : ∀ (ds : List (Int × Int)) (R : List Int), (ds.foldl rStep R).length ≤ R.length + 2 * ds.length
  | [], R => by simp
  | d :: ds, R => by
    have h1 := foldl_rStep_length ds (rStep R d)
    have h2 := rStep_length R d
    rw [List.foldl_cons, List.length_cons]
    omega
theorem rLaps_length (ds : List (Int × Int)) : ∀ k, (rLaps ds k).length ≤ 1 + 2 * ds.length * k
  | 0 => by simp [rLaps]
  | k + 1 => by
    have h1 := rLaps_length ds k
    have h2 := foldl_rStep_length ds (rLaps ds k)
    show (rLap ds (rLaps ds k)).length ≤ _
    unfold rLap
    rw [Nat.mul_succ]
    omega
theorem take_snoc {α : Type} {l : List α} {i : Nat} {x : α} (h : l[i]? = some x) : l.take (i + 1) = l.take i ++ [x] := by
  rw [List.take_add_one, h]
  rfl
/-- the promise -/
def spReached : Sp := fun vs H Q _ => ∃ (F : Hp) (n : Nat) (v : V) (ds : List (Int × Int)), vs = [.int n, v] ∧ Same F H ∧ PairL F v ds ∧ n ≤ 100 ∧ ds.length ≤ 1000 ∧
  ∀ H', Grow F H F H' → Q (.bl (reachedB n ds)) H'
end CF

namespace CF
open PySem L2 PyProof.Rows
/-! ### exceptions: a class of the text, raised with a text -/
/-- what is known of an exception's class (x its name, C where it stands) -/
structure Exn (K : PySem.W.Frag) (mg : Str → Option Value) (x : Str) (C : Addr) : Prop where
  g : mg x = some (.ref C)
  xn : PySem.W.excIn K C ([.type "ValueError", .type "Exception", .type "BaseException", .type "object"] : List Value) "ValueError.__new__" = true
  kp : PySem.W.keepIn K (.ref C) = true
  b : PySem.W.subIn K (.ref C) (.type "BaseException") = some true
  t : PySem.W.typeIn K (.ref C) = some (.type "type")
section
variable {X : Cx} {x m : Str} {C : Addr} {W : WX} {j : Nat} {p p2 pos pos' : Pos}
/-- raise X('m') -/
theorem ps_rs (hc : X.calm = true) (tk : L2N.Takes X W) (T : Exn X.K X.mg x C) (hg : Gl X x) (hdb : (x == ("__debug__" : Str)) = false := by decide) :
    PS X (.Raise (some (.Call (.Name x p) [.Constant (.str m) j p2] [] pos)) none pos') (fun _ σ H => W (.ref C) none σ H) :=
  L2N.ps_raise hc tk (L2N.pmk_own PySem.F.excBase_ValueError T.xn T.g T.kp (raises_own T.b T.t) hg hdb)
/-- nothing is let out -/
theorem passN : Passes (L2N.CX X.prog X.w) X E0 := fun _ _ _ _ _ _ _ h => by
  obtain ⟨_, _, _, _, _, _, _, _, _, _, _, _, z⟩ := h
  exact z.elim
theorem takesN0 : L2N.Takes X (fun _ _ _ _ => False) := fun _ _ h => by
  obtain ⟨_, _, _, _, _, _, _, _, _, _, _, _, _, _, _, _, z⟩ := h
  exact z.elim
end
section
variable {P : Program} {w : World} {K : PySem.W.Frag} {mg : Str → Option Value} {base : Heap}
/-- the context of a def's body, what it raises being told -/
abbrev cxN (P : Program) (w : World) (K : PySem.W.Frag) (mg : Str → Option Value) (base : Heap) (N : List Str) (qual : Str) (st : Stmt) (f : Addr) (cdv : Value) (A : Around) (outer : List Env) (s : Shared) (H : Hp) (E : XK) : Cx :=
  cxOf (L2N.CX P w) P w K mg base N qual (defScope st) f cdv A outer s H E
/-- a def that may raise -/
theorem Fun_okN {x qual : Str} {st : Stmt} {f : Addr} {fd : FuncData} {N ps : List Str} {k : Nat} {sp : Sp} (F : Fun K x qual st f fd) (S : FnScope N ps (defScope st)) (len : ∀ vs H Q E, sp vs H Q E → vs.length = ps.length)
    (body : ∀ (cdv : Value) (A : Around) (outer : List Env) (s : Shared) (H : Hp) (vs : List V) (Q : VK) (E : XK), Room k (A.deeper (envOfC qual (defScope st) s.heap.objs.size f cdv)) →
      L2N.Takes (cxN P w K mg base N qual st f cdv A outer s H E) (fun cls d _ H => E cls d H) → sp vs H Q E →
      ∃ t, PSs (cxN P w K mg base N qual st f cdv A outer s H E) (defBody st) t ∧ t { nx := fun _ H' => Q .non H', rt := Q } (start N vs) H) : FnOk P w K mg base (L2N.CX P w) (k + 1) f fd ps sp := by
  obtain ⟨oc, od, kV, doc, pm, an, cdv, ct, osl, rfl, lk, hcd⟩ := F.ex
  exact fn_of lk hcd S len fun A outer s H vs Q E hr hsp => body cdv A outer s H vs Q E hr (L2N.takes_of rfl rfl rfl rfl) hsp
/-- a def of the text, ready to be called -/
structure Cal (P : Program) (w : World) (K : PySem.W.Frag) (mg : Str → Option Value) (base : Heap) (k : Nat) (x : Str) (ps : List Str) (sp : Sp) : Prop where
  ex : ∃ (f : Addr) (fd : FuncData), FnOk P w K mg base (L2N.CX P w) k f fd ps sp ∧ mg x = some (.ref f) ∧ PySem.W.keepIn K (.ref f) = true ∧ Binds K fd ps []
end
/-- a def that raises nothing is one that may -/
theorem fn_toN {P : Program} {w : World} {K : PySem.W.Frag} {mg : Str → Option Value} {base : Heap} {k : Nat} {f : Addr} {fd : FuncData} {ps : List Str} {sp : Sp} (F : FnOk P w K mg base CX0 k f fd ps sp) : FnOk P w K mg base (L2N.CX P w) k f fd ps sp :=
  ⟨F.len, fun A outer s H args us vs Q E hr e0 hb r h => codeAny_mono (F.run A outer s H args us vs Q E hr e0 hb r h) fun res s' q => by
    cases res with
    | error e => exact q.elim
    | ok fl => cases fl <;> exact q⟩
section
variable {X : Cx} {x : Str} {k j : Nat} {ps : List Str} {sp : Sp} {p pos : Pos} {e : Expr} {es : List Expr} {ta : TA} {W : WX}
/-- f(e, ..) where nothing is raised -/
theorem pe_cl (c : Cal X.prog X.w X.K X.mg X.base k x ps sp) (hr : Room j X.A) (hg : Gl X x) (ha : PA X (e :: es) ta) (hk : k ≤ j := by decide) (hdb : (x == ("__debug__" : Str)) = false := by decide)
    (he : starEach (e :: es) X.env = (false, eval e X.env) :: starEach es X.env := by rfl) (hpl : (backTo pos (starEach es X.env)).any (·.1) = false := by rfl) :
    PE X (.Call (.Name x p) (e :: es) [] pos) (tCall sp [] E0 ta) := by
  obtain ⟨f, fd, F, hm, kp, b⟩ := c.ex
  exact pe_call F (hr.mono hk) hg hm kp b .nil passN ha hdb he hpl
/-- f(e, ..) whose exceptions are wished W -/
theorem pe_clS (c : Cal X.prog X.w X.K X.mg X.base k x ps sp) (hr : Room j X.A) (hg : Gl X x) (tk : L2N.Takes X W) (ha : PA X (e :: es) ta) (hk : k ≤ j := by decide) (hdb : (x == ("__debug__" : Str)) = false := by decide)
    (he : starEach (e :: es) X.env = (false, eval e X.env) :: starEach es X.env := by rfl) (hpl : (backTo pos (starEach es X.env)).any (·.1) = false := by rfl) :
    PE X (.Call (.Name x p) (e :: es) [] pos) (tCallS sp (WE W) ta) := by
  obtain ⟨f, fd, F, hm, kp, b⟩ := c.ex
  exact pe_callS F (hr.mono hk) hg hm kp b (fun σ => L2N.passAt tk σ) ha hdb he hpl
end
end CF
namespace CF
open PySem L2 PyProof.Rows
section
variable {X : Cx} {C f : Addr} {m : Str} {k j : Nat} {ps : List Str} {sp : Sp} {pos apos : Pos} {o e : Expr} {es : List Expr} {to : TE} {ta : TA} {W : WX}
/-- a method of the class at C, ready to be called -/
structure Met (P : Program) (w : World) (K : PySem.W.Frag) (mg : Str → Option Value) (base : Heap) (C : Addr) (k : Nat) (m : Str) (ps : List Str) (sp : Sp) : Prop where
  ex : ∃ (f : Addr) (fd : FuncData), FnOk P w K mg base (L2N.CX P w) k f fd ps sp ∧ Meth K C m f ∧ Binds K fd ps []
theorem pe_mt {pl : Sem Bool} (c : Met X.prog X.w X.K X.mg X.base C k m ps sp) (cl : Cls X.K C) (hr : Room j X.A) (ho : PE X o to) (ha : PA X (e :: es) ta) (hk : k ≤ j := by decide)
    (hst : starEach (e :: es) X.env = (false, eval e X.env) :: starEach es X.env := by rfl) (hpl : (backTo pos (starEach es X.env)).any (·.1) = false := by rfl)
    (ht : eval (.Call (.Attribute o m apos) (e :: es) [] pos) X.env = (do
      let ov ← eval o X.env
      standAt apos.atName
      let (f, first) ← holding [ov] (getMethod ov m pl)
      callWith pos f first (backTo pos (starEach (e :: es) X.env)) (backToKw pos (keywordEach [] X.env))) := by rfl) :
    PE X (.Call (.Attribute o m apos) (e :: es) [] pos) (tMeth C m sp [] E0 to ta) := by
  obtain ⟨f, fd, F, hm, b⟩ := c.ex
  exact pe_meth ho cl hm F (hr.mono hk) b .nil passN ha hst hpl ht
end

/-! ### a floor -/
theorem fk : ¬ (("places" : Str) = "doors") := by decide +kernel
theorem fk' : ¬ (("doors" : Str) = "places") := by decide +kernel
def flds (n : Int) (d : Addr) : List (Str × V) := putF "doors" (.ref d) (putF "places" (.int n) [])
theorem flds_places (n : Int) (d : Addr) : (flds n d).lookup ("places" : Str) = some (.int n) := by
  unfold flds
  rw [lookup_putF, if_neg fk, lookup_putF, if_pos rfl]
theorem flds_doors (n : Int) (d : Addr) : (flds n d).lookup ("doors" : Str) = some (.ref d) := by
  unfold flds
  rw [lookup_putF, if_pos rfl]
theorem flds_no (n : Int) (d : Addr) {m : Str} (h1 : ¬ m = "doors") (h2 : ¬ m = "places") : (flds n d).lookup m = none := by
  unfold flds
  rw [lookup_putF, if_neg h1, lookup_putF, if_neg h2]
  all_goals rfl
/-- v is a floor of n places with the doors ds -/
def FlrAt (C : Addr) (F : Hp) (v : V) (n : Nat) (ds : List (Int × Int)) : Prop := ∃ p dx d, v = .ref p ∧ F p = some (.ins C dx (flds n d)) ∧ PairL F (.ref d) ds
theorem FlrAt.ext {C : Addr} {F F' : Hp} {v : V} {n : Nat} {ds : List (Int × Int)} (e : Same F F') (h : FlrAt C F v n ds) : FlrAt C F' v n ds := by
  obtain ⟨p, dx, d, h1, h2, h3⟩ := h
  exact ⟨p, dx, d, h1, e _ _ h2, h3.ext e⟩
/-- what is known of the class Floor -/
structure FlrC (K : PySem.W.Frag) (mg : Str → Option Value) (C : Addr) : Prop where
  cl : Cls K C
  nP : NoAttr K C "places"
  nD : NoAttr K C "doors"
  g : mg "Floor" = some (.ref C)
/-! ### near: the mirror -/
def mnI (a b : Int) : Int := if b < a then b else a
def mxI (a b : Int) : Int := if b > a then b else a
def joinsB (ds : List (Int × Int)) (p q : Int) : Bool := decide (p = q) || decide ((mnI p q, mxI p q) ∈ ds)
def nearF (n : Nat) (ds : List (Int × Int)) (p : Nat) : List Nat := (List.range n).filter fun q => joinsB ds p q
theorem any_dPr (ds : List (Int × Int)) (p : Int × Int) : ((ds.map dPr).any fun z => PyData.eqv z (dPr p)) = decide (p ∈ ds) := by
  rw [List.any_map, Bool.eq_iff_iff, List.any_eq_true, decide_eq_true_eq]
  constructor
  · rintro ⟨x, hx, e⟩
    have e : PyData.eqv (dPr x) (dPr p) = true := e
    rw [dPr_eqv, decide_eq_true_eq] at e
    exact e ▸ hx
  · intro h
    refine ⟨p, h, ?_⟩
    show PyData.eqv (dPr p) (dPr p) = true
    rw [dPr_eqv]
    exact decide_eq_true rfl
def spJoins (C : Addr) : Sp := fun vs H Q _ => ∃ (F : Hp) (v : V) (n : Nat) (ds : List (Int × Int)) (p q : Int), vs = [v, .int p, .int q] ∧ Same F H ∧ FlrAt C F v n ds ∧
  ∀ H', Grow F H F H' → Q (.bl (joinsB ds p q)) H'
def spNear (C CN : Addr) : Sp := fun vs H Q E => ∃ (F : Hp) (v : V) (n : Nat) (ds : List (Int × Int)) (p : Int), vs = [v, .int p] ∧ Same F H ∧ FlrAt C F v n ds ∧ n ≤ 100 ∧
  ((0 ≤ p ∧ p < n) → ∀ F' H' u, Grow F H F' H' → NatL F' u (nearF n ds p.toNat) → (∃ a, u = .ref a ∧ H a = none) → Q u H') ∧ (¬ (0 ≤ p ∧ p < n) → ∀ H', Grow F H F H' → E (.ref CN) none H')
end CF

namespace CF
open PySem L2 PyProof.Rows
/-! ### comprehensions, in a view -/
/-- one turn: r is the new item, none where it is left out -/
def CStep (g : TG) (tt : TT) (te : TE) (vs : List Nat) (σ : L2.St) (x : V) (H : Hp) (Q : Option V → Hp → Prop) : Prop :=
  g x (wipe σ vs) H fun σ2 H2 => wipe σ2 vs = wipe σ vs ∧ tt σ2 H2 fun b H3 => if b = true then te σ2 H3 fun y H4 => Q (some y) H4 else Q none H3
def OptR {α : Type} (R : Hp → V → α → Prop) (F : Hp) : Option V → Option α → Prop
  | none, none => True
  | some y, some a => R F y a
  | _, _ => False
/-- what is made in the first i turns -/
def made {α : Type} (e : Nat → Option α) (i : Nat) : List α := (List.range i).filterMap e
theorem made_succ {α : Type} (e : Nat → Option α) (i : Nat) : made e (i + 1) = made e i ++ (match e i with | some a => [a] | none => []) := by
  unfold made
  rw [List.range_succ, List.filterMap_append]
  cases h : e i <;> simp [h]
theorem made_le {α : Type} (e : Nat → Option α) (i : Nat) : (made e i).length ≤ i := by
  have := List.length_filterMap_le e (List.range i)
  rw [List.length_range] at this
  exact this
/-- between two turns: the new list at D -/
def CInv {α : Type} (R : Hp → V → α → Prop) (e : Nat → Option α) (F1 H1 : Hp) (D : Addr) (i : Nat) (H : Hp) : Prop :=
  ∃ F acc, Grow F1 H1 F H ∧ F D = none ∧ H D = some (.lst acc) ∧ Paired (R F) acc (made e i)
section
variable {α : Type} {R : Hp → V → α → Prop} {e : Nat → Option α} {F1 H1 H : Hp} {D : Addr} {i : Nat} {g : TG} {tt : TT} {te : TE} {vs : List Nat} {σ : L2.St} {x : V} {n : Nat}
theorem CInv.start (hF : Same F1 H1) (hD : H1 D = none) : CInv R e F1 H1 D 0 (upd H1 D (.lst [])) :=
  ⟨F1, [], (Grow.refl hF).hid _ hD, hF.free hD, upd_same, .nil⟩
/-- a turn -/
theorem CInv.turn (hR : ∀ F F' v x, Same F F' → R F v x → R F' v x) (hD : H1 D = none) (hi : i < n) (hn : n < sizeLine) (c : CInv R e F1 H1 D i H)
    (step : ∀ F, Grow F1 H1 F H → F D = none → (∃ o, H D = some o) → ∀ Q : Option V → Hp → Prop, (∀ F' H' r, Grow F H F' H' → OptR R F' r (e i) → Q r H') → CStep g tt te vs σ x H Q) :
    g x (wipe σ vs) H fun σ2 H2 => wipe σ2 vs = wipe σ vs ∧ tt σ2 H2 fun b H3 =>
      if b = true then te σ2 H3 fun y H4 => ∃ acc, H4 D = some (.lst acc) ∧ acc.length < sizeLine ∧ CInv R e F1 H1 D (i + 1) (upd H4 D (.lst (acc ++ [y]))) else CInv R e F1 H1 D (i + 1) H3 := by
  obtain ⟨F, acc, G, hFD, hHD, hp⟩ := c
  refine step F G hFD ⟨_, hHD⟩ (fun r H4 => match r with
    | some y => ∃ acc, H4 D = some (.lst acc) ∧ acc.length < sizeLine ∧ CInv R e F1 H1 D (i + 1) (upd H4 D (.lst (acc ++ [y])))
    | none => CInv R e F1 H1 D (i + 1) H4) fun F' H' r G' q => ?_
  have hF'D : F' D = none := G'.out hHD hFD
  have hp' : Paired (R F') acc (made e i) := paired_ext (fun v x => hR _ _ v x G'.ss) hp
  have hl : acc.length < sizeLine := by
    have h1 := paired_len hp
    have h2 := made_le e i
    omega
  cases r with
  | some y =>
    cases he : e i with
    | none =>
      rw [he] at q
      exact q.elim
    | some a =>
      rw [he] at q
      refine ⟨acc, G'.keep _ _ hHD, hl, F', acc ++ [y], (G.trans G').mut _ hF'D hD, hF'D, upd_same, ?_⟩
      rw [made_succ, he]
      exact paired_app hp' (.cons q .nil)
  | none =>
    cases he : e i with
    | some a =>
      rw [he] at q
      exact q.elim
    | none =>
      refine ⟨F', acc, G.trans G', hF'D, G'.keep _ _ hHD, ?_⟩
      rw [made_succ, he, List.append_nil]
      exact hp'
theorem CInv.done (hD : H1 D = none) (c : CInv R e F1 H1 D n H) (hR : ∀ F F' v x, Same F F' → R F v x → R F' v x) : ∃ F' ys, Grow F1 H1 F' H ∧ F' D = some (.lst ys) ∧ Paired (R F') ys (made e n) := by
  obtain ⟨F, acc, G, hFD, hHD, hp⟩ := c
  exact ⟨upd F D (.lst acc), acc, G.fix hHD hFD hD, upd_same, paired_ext (fun v x => hR _ _ v x (same_new _ hFD)) hp⟩
/-- the whole, over a list -/
theorem lcv_list {K : PySem.W.Frag} {a : Addr} {xs : List V} {Qd : Hp → Prop} (R : Hp → V → α → Prop) (e : Nat → Option α) (hR : ∀ F F' v x, Same F F' → R F v x → R F' v x) (hF : Same F1 H1) (hs : SqL K F1 a xs) (hD : H1 D = none) (hl : xs.length < sizeLine)
    (step : ∀ i x F H, xs[i]? = some x → Grow F1 H1 F H → F D = none → (∃ o, H D = some o) → ∀ Q : Option V → Hp → Prop, (∀ F' H' r, Grow F H F' H' → OptR R F' r (e i) → Q r H') → CStep g tt te vs σ x H Q)
    (hd : ∀ F' H' ys, Grow F1 H1 F' H' → F' D = some (.lst ys) → Paired (R F') ys (made e xs.length) → Qd H') :
    ∃ W : Nat → Nat → Hp → Prop, (∃ m, W 0 m (upd H1 D (.lst []))) ∧ ∀ i m H, W i m H →
      ((Itl K a).stop i H ∧ Qd H) ∨ ((Itl K a).go i H ∧ ∃ Nx : Hp → Prop, (∀ H', Nx H' → ∃ m', m' < m ∧ W (i + 1) m' H') ∧ ∀ x H', (Itl K a).yld i H x H' →
        g x (wipe σ vs) H' fun σ2 H2 => wipe σ2 vs = wipe σ vs ∧ tt σ2 H2 fun b H3 => if b = true then te σ2 H3 fun y H4 => ∃ acc, H4 D = some (.lst acc) ∧ acc.length < sizeLine ∧ Nx (upd H4 D (.lst (acc ++ [y]))) else Nx H3) := by
  refine lc_list (xs := xs) (CInv R e F1 H1 D) (CInv.start hF hD) (fun i H _ c => ?_) (fun i x H hi c => ?_) fun H c => ?_
  · obtain ⟨F, acc, G, _⟩ := c
    exact (G.ss.trans G.sub).seq hs
  · have hlt : i < xs.length := (List.getElem?_eq_some_iff.mp hi).1
    exact CInv.turn hR hD hlt hl c fun F G hFD ho => step i x F H hi G hFD ho
  · obtain ⟨F', ys, G, h1, h2⟩ := CInv.done hD c hR
    exact hd F' H ys G h1 h2
/-- over a tuple -/
theorem lcv_tup {K : PySem.W.Frag} {a : Addr} {xs : List V} {Qd : Hp → Prop} (R : Hp → V → α → Prop) (e : Nat → Option α) (hR : ∀ F F' v x, Same F F' → R F v x → R F' v x) (hF : Same F1 H1) (hs : F1 a = some (.tup xs)) (hD : H1 D = none) (hl : xs.length < sizeLine)
    (step : ∀ i x F H, xs[i]? = some x → Grow F1 H1 F H → F D = none → (∃ o, H D = some o) → ∀ Q : Option V → Hp → Prop, (∀ F' H' r, Grow F H F' H' → OptR R F' r (e i) → Q r H') → CStep g tt te vs σ x H Q)
    (hd : ∀ F' H' ys, Grow F1 H1 F' H' → F' D = some (.lst ys) → Paired (R F') ys (made e xs.length) → Qd H') :
    ∃ W : Nat → Nat → Hp → Prop, (∃ m, W 0 m (upd H1 D (.lst []))) ∧ ∀ i m H, W i m H →
      ((Itt K a).stop i H ∧ Qd H) ∨ ((Itt K a).go i H ∧ ∃ Nx : Hp → Prop, (∀ H', Nx H' → ∃ m', m' < m ∧ W (i + 1) m' H') ∧ ∀ x H', (Itt K a).yld i H x H' →
        g x (wipe σ vs) H' fun σ2 H2 => wipe σ2 vs = wipe σ vs ∧ tt σ2 H2 fun b H3 => if b = true then te σ2 H3 fun y H4 => ∃ acc, H4 D = some (.lst acc) ∧ acc.length < sizeLine ∧ Nx (upd H4 D (.lst (acc ++ [y]))) else Nx H3) := by
  refine lc_tup (xs := xs) (CInv R e F1 H1 D) (CInv.start hF hD) (fun i H _ c => ?_) (fun i x H hi c => ?_) fun H c => ?_
  · obtain ⟨F, acc, G, _⟩ := c
    exact SqT.of (G.sub _ _ (G.ss _ _ hs))
  · have hlt : i < xs.length := (List.getElem?_eq_some_iff.mp hi).1
    exact CInv.turn hR hD hlt hl c fun F G hFD ho => step i x F H hi G hFD ho
  · obtain ⟨F', ys, G, h1, h2⟩ := CInv.done hD c hR
    exact hd F' H ys G h1 h2
/-- over a range -/
theorem lcv_range {lo : Int} {n : Nat} {Qd : Hp → Prop} (R : Hp → V → α → Prop) (e : Nat → Option α) (hR : ∀ F F' v x, Same F F' → R F v x → R F' v x) (hF : Same F1 H1) (hD : H1 D = none) (hl : n < sizeLine)
    (step : ∀ i F H, i < n → Grow F1 H1 F H → F D = none → (∃ o, H D = some o) → ∀ Q : Option V → Hp → Prop, (∀ F' H' r, Grow F H F' H' → OptR R F' r (e i) → Q r H') → CStep g tt te vs σ (.int (lo + i)) H Q)
    (hd : ∀ F' H' ys, Grow F1 H1 F' H' → F' D = some (.lst ys) → Paired (R F') ys (made e n) → Qd H') :
    ∃ W : Nat → Nat → Hp → Prop, (∃ m, W 0 m (upd H1 D (.lst []))) ∧ ∀ i m H, W i m H →
      ((Itr lo n).stop i H ∧ Qd H) ∨ ((Itr lo n).go i H ∧ ∃ Nx : Hp → Prop, (∀ H', Nx H' → ∃ m', m' < m ∧ W (i + 1) m' H') ∧ ∀ x H', (Itr lo n).yld i H x H' →
        g x (wipe σ vs) H' fun σ2 H2 => wipe σ2 vs = wipe σ vs ∧ tt σ2 H2 fun b H3 => if b = true then te σ2 H3 fun y H4 => ∃ acc, H4 D = some (.lst acc) ∧ acc.length < sizeLine ∧ Nx (upd H4 D (.lst (acc ++ [y]))) else Nx H3) := by
  refine lc_range (CInv R e F1 H1 D) (CInv.start hF hD) (fun i H hi c => ?_) fun H c => ?_
  · exact CInv.turn hR hD hi hl c fun F G hFD ho => step i F H hi G hFD ho
  · obtain ⟨F', ys, G, h1, h2⟩ := CInv.done hD c hR
    exact hd F' H ys G h1 h2
end
/-- whole numbers -/
def RNat (_ : Hp) (v : V) (k : Nat) : Prop := v = nv k
theorem rnat_ext : ∀ F F' v x, Same F F' → RNat F v x → RNat F' v x := fun _ _ _ _ _ h => h
theorem rnat_map {F : Hp} {ys : List V} {ks : List Nat} (h : Paired (RNat F) ys ks) : ys = ks.map nv := by
  induction h with
  | nil => rfl
  | cons r t ih =>
    rw [List.map_cons, ← ih]
    congr 1
theorem made_if (p : Nat → Bool) (n : Nat) : made (fun i => if p i = true then some i else none) n = (List.range n).filter p := by
  unfold made
  induction List.range n with
  | nil => rfl
  | cons x xs ih =>
    cases h : p x <;> simp [h, ih]
theorem made_some {α : Type} (f : Nat → α) (n : Nat) : made (fun i => some (f i)) n = (List.range n).map f := by
  unfold made
  rw [List.filterMap_eq_map']
end CF

namespace CF
open PySem L2 PyProof.Rows
/-! ### which floors are made -/
/-- the door ahead of it is less -/
def prevB (ds : List (Int × Int)) (d : Int × Int) : Nat → Bool
  | 0 => true
  | j + 1 => match ds[j]? with
    | some c => !geP c d
    | none => false
def goodAt (n : Int) (ds : List (Int × Int)) (k : Nat) : Bool :=
  match ds[k]? with
  | some d => decide (0 ≤ d.1) && decide (d.1 < d.2) && decide (d.2 < n) && prevB ds d k
  | none => false
def goodB (n : Int) (ds : List (Int × Int)) : Bool := (List.range ds.length).all (goodAt n ds)
def floorB (n : Int) (ds : List (Int × Int)) : Bool := decide (1 ≤ n) && decide (n ≤ 6) && goodB n ds && reachedB n.toNat ds
def spInit (C CF : Addr) : Sp := fun vs H Q E => ∃ (F : Hp) (x dx : Addr) (n : Int) (v : V) (ds : List (Int × Int)), vs = [.ref x, .int n, v] ∧ Same F H ∧ F x = none ∧ H x = some (.ins C dx []) ∧ PairL F v ds ∧ ds.length ≤ 1000 ∧
  (floorB n ds = true → ∀ (d : Addr) (ys : List V) (H' : Hp), H d = none → (∀ b o, H b = some o → b ≠ x → H' b = some o) → H' x = some (.ins C dx (flds n d)) → H' d = some (.lst ys) → Paired (PairT F) ys ds → Q .non H') ∧
  (floorB n ds = false → ∀ H', Grow F H F H' → E (.ref CF) none H')
end CF

namespace CF
open PySem L2 PyProof.Rows
/-! ### the chase: the mirror -/
def asI (g : List Nat) : List Int := g.map fun (k : Nat) => (k : Int)
theorem asI_nv (g : List Nat) : (asI g).map V.int = g.map nv := by
  unfold asI
  rw [List.map_map]
  rfl
theorem asI_inj {a b : List Nat} (h : asI a = asI b) : a = b := by
  have h2 := congrArg (List.map Int.toNat) h
  unfold asI at h2
  rw [List.map_map, List.map_map] at h2
  have e : (Int.toNat ∘ fun k : Nat => (k : Int)) = id := by
    funext k
    simp
  rw [e, List.map_id, List.map_id] at h2
  exact h2
/-- all tuples of one member of each list -/
def goStep (found : List (List Nat)) (ms : List Nat) : List (List Nat) := found.flatMap fun s => ms.map fun m => s ++ [m]
def goF (lists : List (List Nat)) : List (List Nat) := lists.foldl goStep [[]]
/-- ranks: what is told of chasers and a runner -/
abbrev Rk := List Nat → Nat → Option Nat
def behStep (L : Rk) (g : List Nat) (acc : Option Nat) (p : Nat) : Option Nat := match acc, L g p with
  | some m, some k => some (if k > m then k else m)
  | _, _ => none
def behF (nr : List Nat) (L : Rk) (g : List Nat) (r : Nat) : Option Nat := if r ∈ g then some 0 else nr.foldl (behStep L g) (some 0)
def opN : Option Nat → V
  | some k => nv k
  | none => .non
/-- at a stands a dict of ranks -/
def RkH (P : Program) (w : World) (H : Hp) (a : Addr) (L : Rk) (b : Nat) : Prop := ∃ kvs, RkAt P w H a kvs ∧ kvs.length ≤ b ∧ ∀ g p, getN kvs (asI g, ((p : Nat) : Int)) = (L g p).map fun (k : Nat) => (k : Int)
theorem RkH.ext {P : Program} {w : World} {H H' : Hp} {a : Addr} {L : Rk} {b : Nat} (h : RkH P w H a L b) (e : Same H H') : RkH P w H' a L b := by
  obtain ⟨kvs, h1, h2, h3⟩ := h
  exact ⟨kvs, h1.ext e, h2, h3⟩
/-- all standings, in order -/
def allS (n : Nat) (ks : List (List Nat × List (List Nat))) : List (List Nat × Nat) := ks.flatMap fun k => (List.range n).map fun r => (k.1, r)
/-- one can go from there to standings that all have a rank -/
def winB (ar : List (List Nat)) (L : Rk) (gs : List (List Nat)) (r : Nat) : Bool := gs.any fun g => (behF (ar.getD r []) L g r).isSome
def moreF (ar : List (List Nat)) (L : Rk) (ks : List (List Nat × List (List Nat))) : List (List Nat × Nat) :=
  ks.flatMap fun k => ((List.range ar.length).filter fun r => (L k.1 r).isNone && winB ar L k.2 r).map fun r => (k.1, r)
def upL (L : Rk) (more : List (List Nat × Nat)) (t : Nat) : Rk := fun g r => if (g, r) ∈ more then some t else L g r
/-- behind so many laps -/
def lapL (ar : List (List Nat)) (ks : List (List Nat × List (List Nat))) (L0 : Rk) : Nat → Rk
  | 0 => L0
  | t + 1 => upL (lapL ar ks L0 t) (moreF ar (lapL ar ks L0 t) ks) (t + 1)
/-- the standing (g, r), a tuple of a tuple and a number -/
def StT (F : Hp) (v : V) (s : List Nat × Nat) : Prop := ∃ t q, v = .ref t ∧ F t = some (.tup [.ref q, nv s.2]) ∧ F q = some (.tup (s.1.map nv))
theorem StT.ext {F F' : Hp} {v : V} {s : List Nat × Nat} (e : Same F F') (h : StT F v s) : StT F' v s := by
  obtain ⟨t, q, h1, h2, h3⟩ := h
  exact ⟨t, q, h1, e _ _ h2, e _ _ h3⟩
theorem StT.nat {F : Hp} {t : Addr} {s : List Nat × Nat} (h : StT F (.ref t) s) : NAt F t (asI s.1, (s.2 : Int)) := by
  obtain ⟨t', q, e, h2, h3⟩ := h
  cases e
  exact ⟨q, h2, by rw [asI_nv]; exact h3⟩
/-- the known goings: chasers, and the list of where they can go -/
def KnH (H F : Hp) (d : Addr) (ks : List (List Nat × List (List Nat))) : Prop := ∃ kvs : List (List Key × V), H d = some (.dT kvs) ∧ (kvs.map (·.1)).Nodup ∧ Paired (fun (kv : List Key × V) k => kv.1 = (asI k.1).map Sum.inl ∧ NatTL F kv.2 k.2) kvs ks
theorem kV_asI (g : List Nat) : ((asI g).map (Sum.inl : Int → Key)).map kV = g.map nv := by
  unfold asI
  rw [List.map_map, List.map_map]
  rfl
/-! ### promises -/
def intsV (is : List Int) : List V := is.map V.int
/-- is it a standing -/
def standB (n : Nat) (is : List Int) (r : Int) : Bool := decide (1 ≤ is.length) && decide (is.length ≤ 2) && (is ++ [r]).all fun i => decide (0 ≤ i) && decide (i < n)
def spStand (C : Addr) : Sp := fun vs H Q _ => ∃ (F : Hp) (v : V) (n : Nat) (ds : List (Int × Int)) (a : Addr) (is : List Int) (r : Int), vs = [v, .ref a, .int r] ∧ Same F H ∧ FlrAt C F v n ds ∧ F a = some (.lst (intsV is)) ∧ is.length ≤ 1000 ∧
  ∀ H', Grow F H F H' → Q (.bl (standB n is r)) H'
def spAsked (C CN : Addr) : Sp := fun vs H Q E => ∃ (F : Hp) (v : V) (n : Nat) (ds : List (Int × Int)) (a : Addr) (is : List Int) (r : Int), vs = [v, .ref a, .int r] ∧ Same F H ∧ FlrAt C F v n ds ∧ F a = some (.lst (intsV is)) ∧ is.length ≤ 1000 ∧
  (standB n is r = true → ∀ H', Grow F H F H' → Q .non H') ∧ (standB n is r = false → ∀ H', Grow F H F H' → E (.ref CN) none H')
def spCaught (C CN : Addr) : Sp := fun vs H Q E => ∃ (F : Hp) (v : V) (n : Nat) (ds : List (Int × Int)) (a : Addr) (is : List Int) (r : Int), vs = [v, .ref a, .int r] ∧ Same F H ∧ FlrAt C F v n ds ∧ F a = some (.lst (intsV is)) ∧ is.length ≤ 1000 ∧
  (standB n is r = true → ∀ H', Grow F H F H' → Q (.bl (decide (r ∈ is))) H') ∧ (standB n is r = false → ∀ H', Grow F H F H' → E (.ref CN) none H')
/-- for each place the places near it -/
def arF (n : Nat) (ds : List (Int × Int)) : List (List Nat) := (List.range n).map fun p => nearF n ds p
def spAround (C : Addr) : Sp := fun vs H Q _ => ∃ (F : Hp) (v : V) (n : Nat) (ds : List (Int × Int)), vs = [v] ∧ Same F H ∧ FlrAt C F v n ds ∧ n ≤ 100 ∧
  ∀ F' H' u, Grow F H F' H' → NatLL F' u (arF n ds) → Q u H'
def spGoings : Sp := fun vs H Q _ => ∃ (F : Hp) (v : V) (ls : List (List Nat)), vs = [v] ∧ Same F H ∧ NatLL F v ls ∧ ls.length ≤ 2 ∧ (∀ l ∈ ls, l.length ≤ 100) ∧
  ∀ F' H' u, Grow F H F' H' → NatTL F' u (goF ls) → (∃ a, u = .ref a ∧ H a = none) → Q u H'
def spBehind (P : Program) (w : World) : Sp := fun vs H Q _ => ∃ (F : Hp) (v : V) (ar : List (List Nat)) (a : Addr) (L : Rk) (b : Nat) (u : V) (g : List Nat) (r : Nat), vs = [v, .ref a, u, nv r] ∧ Same F H ∧ NatLL F v ar ∧ RkH P w H a L b ∧ NatT F u g ∧ r < ar.length ∧
  ∀ F' H', Grow F H F' H' → Q (opN (behF (ar.getD r []) L g r)) H'
def spMore (P : Program) (w : World) : Sp := fun vs H Q _ => ∃ (F : Hp) (v : V) (ar : List (List Nat)) (a : Addr) (L : Rk) (b : Nat) (d : Addr) (ks : List (List Nat × List (List Nat))), vs = [v, .ref a, .ref d] ∧ Same F H ∧ NatLL F v ar ∧ RkH P w H a L b ∧ KnH H F d ks ∧ F d = none ∧
  ks.length ≤ 10000 ∧ ar.length ≤ 100 ∧ ∀ F' H' u, Grow F H F' H' → LstOf StT F' u (moreF ar L ks) → Q u H'
end CF

namespace CF
open PySem L2 PyProof.Rows
theorem flat_intsV (is : List Int) : (intsV is).all flatV = true := by
  rw [List.all_eq_true]
  intro v hv
  obtain ⟨i, _, rfl⟩ := List.mem_map.mp hv
  rfl
theorem inV_intsV (r : Int) (is : List Int) : (if false = true then !inV (.int r) (intsV is) else inV (.int r) (intsV is)) = decide (r ∈ is) := by
  rw [if_neg (by decide)]
  unfold inV intsV
  rw [List.any_map, Bool.eq_iff_iff, List.any_eq_true, decide_eq_true_eq]
  constructor
  · rintro ⟨x, hx, e⟩
    have e : (x == r) = true := e
    rw [beq_iff_eq] at e
    exact e ▸ hx
  · intro h
    exact ⟨r, h, beq_self_eq_true r⟩
theorem notInV_intsV (r : Int) (is : List Int) : (if true = true then !inV (.int r) (intsV is) else inV (.int r) (intsV is)) = !decide (r ∈ is) := by
  rw [if_pos rfl]
  have := inV_intsV r is
  rw [if_neg (by decide)] at this
  rw [this]
theorem nvs_intsV (g : List Nat) : g.map nv = intsV (asI g) := (asI_nv g).symm
theorem mem_asI {g : List Nat} {r : Nat} : ((r : Nat) : Int) ∈ asI g ↔ r ∈ g := by
  unfold asI
  rw [List.mem_map]
  constructor
  · rintro ⟨k, hk, e⟩
    have : k = r := by omega
    exact this ▸ hk
  · intro h
    exact ⟨r, h, rfl⟩
theorem paired_getE {α : Type} {R : Hp → V → α → Prop} {F : Hp} {ys : List V} {xs : List α} (h : Paired (R F) ys xs) {i : Nat} (hi : i < xs.length) : ∃ y, ys[i]? = some y ∧ R F y xs[i] :=
  paired_get h (List.getElem?_eq_getElem hi)
end CF
namespace CF
open PySem L2 PyProof.Rows
section
variable {te : TE} {vs : List Nat} {σ : L2.St} {x : V} {H : Hp} {Q : Option V → Hp → Prop} {tt : TT} {j : Nat}
/-- a turn without a test -/
theorem cs_yes (h : te ((wipe σ vs).set j (some x)) H fun y H4 => Q (some y) H4) (hw : wipe ((wipe σ vs).set j (some x)) vs = wipe σ vs := by rfl) : CStep (gName j) tYes te vs σ x H Q := by
  refine ⟨hw, ?_⟩
  show if true = true then (te ((wipe σ vs).set j (some x)) H fun y H4 => Q (some y) H4) else Q none H
  exact iteT h
theorem cs_if (h : tt ((wipe σ vs).set j (some x)) H fun b H3 => if b = true then te ((wipe σ vs).set j (some x)) H3 fun y H4 => Q (some y) H4 else Q none H3) (hw : wipe ((wipe σ vs).set j (some x)) vs = wipe σ vs := by rfl) : CStep (gName j) tt te vs σ x H Q := ⟨hw, h⟩
end
end CF
namespace CF
open PySem L2 PyProof.Rows
theorem flatMap_len (s : List (List Nat)) (ms : List Nat) : (goStep s ms).length = s.length * ms.length := by
  unfold goStep
  induction s with
  | nil => simp
  | cons x xs ih => simp [List.flatMap_cons, ih, Nat.succ_mul, Nat.add_comm]
theorem go_len : ∀ (ls : List (List Nat)) (f : List (List Nat)), (∀ l ∈ ls, l.length ≤ 100) → (ls.foldl goStep f).length ≤ f.length * 100 ^ ls.length
  | [], f, _ => by simp
  | l :: ls, f, h => by
    have ih := go_len ls (goStep f l) fun x hx => h x (List.mem_cons_of_mem _ hx)
    have h1 := h l List.mem_cons_self
    rw [flatMap_len] at ih
    rw [List.foldl_cons, List.length_cons, Nat.pow_succ]
    have h2 : f.length * l.length * 100 ^ ls.length ≤ f.length * 100 * 100 ^ ls.length := Nat.mul_le_mul_right _ (Nat.mul_le_mul_left _ h1)
    have h3 : f.length * 100 * 100 ^ ls.length = f.length * (100 ^ ls.length * 100) := by
      rw [Nat.mul_assoc, Nat.mul_comm 100]
    omega
theorem made_get {α β : Type} (l : List β) (f : β → α) : made (fun i => (l[i]?).map f) l.length = l.map f := by
  unfold made
  have h : ∀ n, n ≤ l.length → (List.range n).filterMap (fun i => (l[i]?).map f) = (l.take n).map f := by
    intro n
    induction n with
    | zero => intro _; rfl
    | succ n ih =>
      intro hn
      have hn' : n < l.length := by omega
      rw [List.range_succ, List.filterMap_append, ih (by omega), take_snoc (List.getElem?_eq_getElem hn'), List.map_append]
      simp [List.getElem?_eq_getElem hn']
  rw [h _ (Nat.le_refl _), List.take_length]
end CF
namespace CF
theorem go_mem : ∀ (ls : List (List Nat)) (f : List (List Nat)) (n : Nat), (∀ s ∈ f, s.length = n) → ∀ s ∈ ls.foldl goStep f, s.length = n + ls.length
  | [], f, n, h, s, hs => h s hs
  | l :: ls, f, n, h, s, hs => by
    have ih := go_mem ls (goStep f l) (n + 1) (fun s hs => by
      unfold goStep at hs
      obtain ⟨s', h1, h2⟩ := List.mem_flatMap.mp hs
      obtain ⟨m, _, rfl⟩ := List.mem_map.mp h2
      rw [List.length_append, h s' h1]
      rfl) s hs
    rw [ih, List.length_cons]
    omega
end CF
namespace CF
theorem behNone (L : Rk) (g : List Nat) : ∀ l : List Nat, l.foldl (behStep L g) none = none
  | [] => rfl
  | p :: l => by
    rw [List.foldl_cons]
    exact behNone L g l
end CF

namespace CF
open PySem L2 PyProof.Rows
/-- over the keys of a dict whose keys are tuples, locked meanwhile -/
theorem for_keysT {d : Addr} {o : Obj} {kvs : List (List Key × V)} {g : TG} {tb : TS} {D : Ends} {σ : L2.St} {H : Hp} (Pv : Nat → L2.St → Hp → Prop) (h0 : Pv 0 σ H) (hl : ∀ i σ H, i ≤ kvs.length → Pv i σ H → H d = some (.frz o (.dT kvs)))
    (hs : ∀ i k v q σ H, kvs[i]? = some (k, v) → H q = some (.tup (k.map kV)) → Pv i σ H → g (.ref q) σ H fun σ2 H2 => tb { D with nx := Pv (i + 1), ct := Pv (i + 1), bk := D.nx } σ2 H2) (hd : ∀ σ H, Pv kvs.length σ H → D.nx σ H) :
    ∃ W : Nat → Nat → L2.St → Hp → Prop, (∃ m, W 0 m σ H) ∧ ∀ i m σ H, W i m σ H →
      ((Itkt d o kvs).stop i H ∧ D.nx σ H) ∨ ((Itkt d o kvs).go i H ∧ ∃ N : L2.St → Hp → Prop, (∀ σ' H', N σ' H' → ∃ m', m' < m ∧ W (i + 1) m' σ' H') ∧
        ∀ x H', (Itkt d o kvs).yld i H x H' → g x σ H' fun σ2 H2 => tb { D with nx := N, ct := N, bk := D.nx } σ2 H2) := by
  refine ⟨fun i m σ H => m = kvs.length - i ∧ i ≤ kvs.length ∧ Pv i σ H, ⟨kvs.length, rfl, Nat.zero_le _, h0⟩, ?_⟩
  rintro i m σ H ⟨rfl, hi, p⟩
  have q := hl i σ H hi p
  by_cases c : i < kvs.length
  · refine .inr ⟨⟨q, c⟩, Pv (i + 1), fun σ' H' p' => ⟨kvs.length - (i + 1), by omega, rfl, c, p'⟩, fun x H' y => ?_⟩
    obtain ⟨rfl, k, v, a, e1, rfl, e3⟩ := y
    exact hs i k v a σ _ e1 e3 p
  · have e : i = kvs.length := by omega
    subst e
    exact .inl ⟨⟨q, Nat.le_refl _⟩, hd σ H p⟩
section
variable {G H F H' : Hp} {d : Addr} {u o : HO}
/-- a dict was locked through the whole of it -/
theorem Grow.unlock (hd : H d = some u) (g : Grow G (upd H d o) F H') (hF : F d = none) : Grow G H F (upd H' d u) := by
  refine ⟨g.ss, fun b v e => ?_, fun b v e => ?_, fun b v e => ?_⟩
  · rw [upd_ne (ne_of_none e hF)]
    exact g.sub _ _ e
  · by_cases c : b = d
    · subst c
      rw [upd_same, ← hd]
      exact e
    · rw [upd_ne c]
      exact g.keep _ _ (by rw [upd_ne c]; exact e)
  · rcases g.new b v e with c | c | c
    · exact .inl c
    · have nb : b ≠ d := fun z => by rw [z, upd_same] at c; cases c
      rw [upd_ne nb] at c
      exact .inr (.inl c)
    · exact .inr (.inr c)
end
theorem RkH.lock {P : Program} {w : World} {H : Hp} {a d : Addr} {L : Rk} {b : Nat} {kvs : List (List Key × V)} (h : RkH P w H a L b) (hd : H d = some (.dT kvs)) (o : HO) : RkH P w (upd H d o) a L b := by
  obtain ⟨ks, ⟨h1, h2, xs, h3, h4⟩, hb, h5⟩ := h
  refine ⟨ks, ⟨h1, h2, xs, ?_, h4.ext fun c ys e => ?_⟩, hb, h5⟩
  · rw [upd_ne (ne_of h3 hd (by intro z; cases z))]
    exact h3
  · rw [upd_ne (ne_of e hd (by intro z; cases z))]
    exact e
theorem moreF_snoc (ar : List (List Nat)) (L : Rk) {ks : List (List Nat × List (List Nat))} {i : Nat} {k : List Nat × List (List Nat)} (h : ks[i]? = some k) :
    moreF ar L (ks.take (i + 1)) = moreF ar L (ks.take i) ++ ((List.range ar.length).filter fun r => (L k.1 r).isNone && winB ar L k.2 r).map fun r => (k.1, r) := by
  rw [take_snoc h]
  unfold moreF
  rw [List.flatMap_append]
  simp
theorem filter_range_succ (p : Nat → Bool) (j : Nat) : (List.range (j + 1)).filter p = (List.range j).filter p ++ (if p j = true then [j] else []) := by
  rw [List.range_succ, List.filter_append]
  cases h : p j <;> simp [h]
theorem any_take_none {α : Type} {l : List α} {p : α → Bool} (h : ∀ (j : Nat) (x : α), l[j]? = some x → p x = false) : l.any p = false := by
  rw [List.any_eq_false]
  intro x hx
  obtain ⟨j, hj, e⟩ := List.mem_iff_getElem.mp hx
  rw [h j x (by rw [← e]; exact List.getElem?_eq_getElem hj)]
  decide
theorem opN_non (o : Option Nat) : (!decide (opN o = .non)) = o.isSome := by
  cases o with
  | none => rfl
  | some k => rfl
theorem valV_nd {kvs : List (List Key × V)} (hn : (kvs.map (·.1)).Nodup) : ∀ {i : Nat} {k : List Key} {v : V}, kvs[i]? = some (k, v) → valV kvs k = some v := by
  induction kvs with
  | nil =>
    intro i k v h
    simp at h
  | cons p r ih =>
    intro i k v h
    rw [List.map_cons] at hn
    obtain ⟨h1, h2⟩ := List.nodup_cons.mp hn
    cases i with
    | zero =>
      simp at h
      subst h
      exact valV_pos rfl
    | succ i =>
      simp at h
      have hm : k ∈ r.map (·.1) := List.mem_map.mpr ⟨(k, v), List.mem_of_getElem? h, rfl⟩
      rw [valV_neg (fun e => h1 (by rw [e]; exact hm))]
      exact ih h2 h
end CF
namespace CF
open PySem L2 PyProof.Rows
theorem upd_comm {H : Hp} {a b : Addr} {o u : HO} (h : a ≠ b) : upd (upd H a o) b u = upd (upd H b u) a o := by
  funext c
  by_cases c1 : c = b
  · subst c1
    rw [upd_same, upd_ne h.symm, upd_same]
  · rw [upd_ne c1]
    by_cases c2 : c = a
    · subst c2
      rw [upd_same, upd_same]
    · rw [upd_ne c2, upd_ne c2, upd_ne c1]
theorem moreF_len (ar : List (List Nat)) (L : Rk) : ∀ ks : List (List Nat × List (List Nat)), (moreF ar L ks).length ≤ ks.length * ar.length
  | [] => by simp [moreF]
  | k :: ks => by
    have ih := moreF_len ar L ks
    unfold moreF at ih ⊢
    rw [List.flatMap_cons, List.length_append, List.length_map, List.length_cons, Nat.succ_mul]
    have := List.length_filter_le (fun r => (L k.1 r).isNone && winB ar L k.2 r) (List.range ar.length)
    rw [List.length_range] at this
    omega
end CF

namespace CF
open PySem L2 PyProof.Rows
/-! ### the ranks of all standings: the mirror -/
/-- where so many chasers can stand, in order -/
def cssF (n c : Nat) : List (List Nat) := goF (List.replicate c (List.range n))
/-- where chasers can go -/
def glF (ar : List (List Nat)) (cs : List Nat) : List (List Nat) := goF (cs.map fun p => ar.getD p [])
def ksF (ar : List (List Nat)) (css : List (List Nat)) : List (List Nat × List (List Nat)) := css.map fun cs => (cs, glF ar cs)
def L0F (css : List (List Nat)) : Rk := fun g r => if g ∈ css ∧ r ∈ g then some 0 else none
/-- how many standings have no rank -/
def unr (n : Nat) (css : List (List Nat)) (L : Rk) : Nat := ((css.flatMap fun cs => (List.range n).map fun r => (cs, r)).filter fun s => (L s.1 s.2).isNone).length
def lapN (n : Nat) (ds : List (Int × Int)) (c t : Nat) : Rk := lapL (arF n ds) (ksF (arF n ds) (cssF n c)) (L0F (cssF n c)) t
/-- the ranks -/
def ranksF (n : Nat) (ds : List (Int × Int)) (c : Nat) : Rk := lapN n ds c (unr n (cssF n c) (L0F (cssF n c)))
theorem arF_len (n : Nat) (ds : List (Int × Int)) : (arF n ds).length = n := by simp [arF]
/-- the standings that come, as a choice of all -/
theorem moreF_filter (ar : List (List Nat)) (L : Rk) : ∀ css : List (List Nat), moreF ar L (ksF ar css) = (css.flatMap fun cs => (List.range ar.length).map fun r => (cs, r)).filter fun s => (L s.1 s.2).isNone && winB ar L (glF ar s.1) s.2
  | [] => rfl
  | cs :: css => by
    have ih := moreF_filter ar L css
    unfold moreF ksF at ih ⊢
    rw [List.map_cons, List.flatMap_cons, List.flatMap_cons, List.filter_append, ← ih, List.filter_map]
    rfl
theorem filter_split {α : Type} (p q : α → Bool) : ∀ l : List α, (l.filter p).length = (l.filter fun x => p x && q x).length + (l.filter fun x => p x && !q x).length
  | [] => rfl
  | x :: l => by
    have ih := filter_split p q l
    cases hp : p x <;> cases hq : q x <;> simp [hp, hq, ih] <;> omega
theorem unr_up (ar : List (List Nat)) (L : Rk) (css : List (List Nat)) (t : Nat) : unr ar.length css (upL L (moreF ar L (ksF ar css)) t) + (moreF ar L (ksF ar css)).length = unr ar.length css L := by
  unfold unr
  have e := filter_split (fun s : List Nat × Nat => (L s.1 s.2).isNone) (fun s => winB ar L (glF ar s.1) s.2) (css.flatMap fun cs => (List.range ar.length).map fun r => (cs, r))
  rw [e, moreF_filter, Nat.add_comm]
  congr 2
  refine List.filter_congr fun s hs => ?_
  unfold upL
  by_cases c : (s.1, s.2) ∈ (css.flatMap fun cs => (List.range ar.length).map fun r => (cs, r)).filter fun s => (L s.1 s.2).isNone && winB ar L (glF ar s.1) s.2
  · rw [if_pos c]
    have h := (List.mem_filter.mp c).2
    simp only [Bool.and_eq_true] at h
    simp [h.2]
  · rw [if_neg c]
    cases hL : (L s.1 s.2).isNone with
    | false => simp
    | true =>
      cases hw : winB ar L (glF ar s.1) s.2 with
      | false => rfl
      | true => exact absurd (List.mem_filter.mpr ⟨hs, by simp [hL, hw]⟩) c
theorem unr_lap (n : Nat) (ds : List (Int × Int)) (c t : Nat) : unr n (cssF n c) (lapN n ds c (t + 1)) + (moreF (arF n ds) (lapN n ds c t) (ksF (arF n ds) (cssF n c))).length = unr n (cssF n c) (lapN n ds c t) := by
  have h := unr_up (arF n ds) (lapN n ds c t) (cssF n c) (t + 1)
  rw [arF_len] at h
  exact h
theorem upL_nil (L : Rk) (t : Nat) : upL L [] t = L := by
  funext g r
  unfold upL
  rw [if_neg (by simp)]
/-- where nothing comes, nothing comes any more -/
theorem lap_stay {n : Nat} {ds : List (Int × Int)} {c t : Nat} (h : moreF (arF n ds) (lapN n ds c t) (ksF (arF n ds) (cssF n c)) = []) : ∀ j, lapN n ds c (t + j) = lapN n ds c t
  | 0 => rfl
  | j + 1 => by
    have ih := lap_stay h j
    show upL (lapN n ds c (t + j)) (moreF (arF n ds) (lapN n ds c (t + j)) (ksF (arF n ds) (cssF n c))) (t + j + 1) = _
    rw [ih, h, upL_nil]
/-- each lap ahead of the end brings something -/
theorem lap_unr {n : Nat} {ds : List (Int × Int)} {c : Nat} : ∀ t, (∀ s, s < t → moreF (arF n ds) (lapN n ds c s) (ksF (arF n ds) (cssF n c)) ≠ []) → unr n (cssF n c) (lapN n ds c t) + t ≤ unr n (cssF n c) (L0F (cssF n c))
  | 0, _ => Nat.le_refl _
  | t + 1, h => by
    have ih := lap_unr t fun s hs => h s (by omega)
    have h1 := unr_lap n ds c t
    have h2 : 0 < (moreF (arF n ds) (lapN n ds c t) (ksF (arF n ds) (cssF n c))).length := by
      have := h t (Nat.lt_succ_self t)
      cases hm : moreF (arF n ds) (lapN n ds c t) (ksF (arF n ds) (cssF n c)) with
      | nil => exact absurd hm this
      | cons _ _ => simp
    omega
theorem ranks_end {n : Nat} {ds : List (Int × Int)} {c t : Nat} (h0 : ∀ s, s < t → moreF (arF n ds) (lapN n ds c s) (ksF (arF n ds) (cssF n c)) ≠ []) (h : moreF (arF n ds) (lapN n ds c t) (ksF (arF n ds) (cssF n c)) = []) : lapN n ds c t = ranksF n ds c := by
  have h1 := lap_unr t h0
  obtain ⟨j, hj⟩ : ∃ j, unr n (cssF n c) (L0F (cssF n c)) = t + j := ⟨unr n (cssF n c) (L0F (cssF n c)) - t, by omega⟩
  unfold ranksF
  rw [hj, lap_stay h]
/-! members of the lists of chasers -/
theorem goStep_nodup {f : List (List Nat)} {ms : List Nat} (hf : f.Nodup) (hm : ms.Nodup) : (goStep f ms).Nodup := by
  unfold goStep
  induction f with
  | nil => simp
  | cons s f ih =>
    obtain ⟨h1, h2⟩ := List.nodup_cons.mp hf
    rw [List.flatMap_cons, List.nodup_append]
    refine ⟨?_, ih h2, fun a ha b hb e => ?_⟩
    · refine List.Pairwise.map _ (fun a b hab e => hab ?_) hm
      have := (List.append_inj' e rfl).2
      simpa using this
    · obtain ⟨m, _, rfl⟩ := List.mem_map.mp ha
      obtain ⟨s', hs', h3⟩ := List.mem_flatMap.mp hb
      obtain ⟨m', _, rfl⟩ := List.mem_map.mp h3
      have := (List.append_inj' e rfl).1
      exact h1 (this ▸ hs')
theorem go_nodup : ∀ (ls : List (List Nat)) (f : List (List Nat)), f.Nodup → (∀ l ∈ ls, l.Nodup) → (ls.foldl goStep f).Nodup
  | [], f, h, _ => h
  | l :: ls, f, h, hl => go_nodup ls _ (goStep_nodup h (hl l List.mem_cons_self)) fun x hx => hl x (List.mem_cons_of_mem _ hx)
theorem cssF_nodup (n c : Nat) : (cssF n c).Nodup := go_nodup _ _ (by simp) fun l hl => by
  rw [List.eq_of_mem_replicate hl]
  exact List.nodup_range
theorem goStep_mem {f : List (List Nat)} {ms : List Nat} {s : List Nat} : s ∈ goStep f ms ↔ ∃ s' ∈ f, ∃ m ∈ ms, s = s' ++ [m] := by
  unfold goStep
  rw [List.mem_flatMap]
  constructor
  · rintro ⟨s', h1, h2⟩
    obtain ⟨m, h3, rfl⟩ := List.mem_map.mp h2
    exact ⟨s', h1, m, h3, rfl⟩
  · rintro ⟨s', h1, m, h3, rfl⟩
    exact ⟨s', h1, List.mem_map.mpr ⟨m, h3, rfl⟩⟩
theorem cssF_mem : ∀ {c n : Nat} {s : List Nat}, s ∈ cssF n c ↔ s.length = c ∧ ∀ p ∈ s, p < n
  | 0, n, s => by
    unfold cssF goF
    rw [List.replicate_zero, List.foldl_nil, List.mem_singleton]
    constructor
    · rintro rfl
      exact ⟨rfl, fun p hp => by simp at hp⟩
    · rintro ⟨h, _⟩
      exact List.length_eq_zero_iff.mp h
  | c + 1, n, s => by
    have ih := fun s => @cssF_mem c n s
    unfold cssF goF at ih ⊢
    rw [List.replicate_succ', List.foldl_append, List.foldl_cons, List.foldl_nil, goStep_mem]
    constructor
    · rintro ⟨s', h1, m, h2, rfl⟩
      obtain ⟨h3, h4⟩ := (ih s').mp h1
      refine ⟨by simp [h3], fun p hp => ?_⟩
      rcases List.mem_append.mp hp with h | h
      · exact h4 p h
      · rw [List.mem_singleton] at h
        rw [h]
        exact List.mem_range.mp h2
    · rintro ⟨h1, h2⟩
      have hne : s ≠ [] := fun e => by rw [e] at h1; simp at h1
      refine ⟨s.dropLast, (ih _).mpr ⟨by rw [List.length_dropLast, h1]; rfl, fun p hp => h2 p (List.dropLast_subset _ hp)⟩, s.getLast hne, List.mem_range.mpr (h2 _ (List.getLast_mem hne)), (List.dropLast_concat_getLast hne).symm⟩
theorem cssF_len {n c : Nat} (hn : n ≤ 100) (hc : c ≤ 2) : (cssF n c).length ≤ 10000 := by
  have h := go_len (List.replicate c (List.range n)) [[]] fun l hl => by
    rw [List.eq_of_mem_replicate hl, List.length_range]
    exact hn
  have h2 : 100 ^ (List.replicate c (List.range n)).length ≤ 100 ^ 2 := Nat.pow_le_pow_right (by decide) (by rw [List.length_replicate]; exact hc)
  unfold cssF goF
  simp only [List.length_cons, List.length_nil] at h
  omega
end CF
namespace CF
open PySem L2 PyProof.Rows
def spRanks (P : Program) (w : World) (C : Addr) : Sp := fun vs H Q _ => ∃ (F : Hp) (v : V) (n : Nat) (ds : List (Int × Int)) (c : Nat), vs = [v, nv c] ∧ Same F H ∧ FlrAt C F v n ds ∧ n ≤ 6 ∧ c ≤ 2 ∧
  ∀ F' H' a, Grow F H F' H' → F' a = none → RkH P w H' a (ranksF n ds c) 100000 → H a = none → Q (.ref a) H'
theorem rgV_nv (n : Nat) : rgV 0 (n : Int) = (List.range n).map nv := by
  unfold rgV
  have e : ((n : Int) - 0).toNat = n := by omega
  rw [e]
  refine List.map_congr_left fun i _ => ?_
  show V.int (0 + (i : Int)) = V.int (i : Int)
  rw [Int.zero_add]
theorem made_const {α : Type} (x : α) (c : Nat) : made (fun _ => some x) c = List.replicate c x := by
  rw [made_some]
  induction c with
  | zero => rfl
  | succ c ih => rw [List.range_succ, List.map_append, ih, List.replicate_succ']; rfl
/-- a rank is put -/
theorem RkH.put {P : Program} {w : World} {H : Hp} {a t : Addr} {L : Rk} {b : Nat} {s : List Nat × Nat} (h : RkH P w H a L b) (hb : b < sizeLine) (hs : NAt H t (asI s.1, (s.2 : Int))) (k : Nat) {Z : Hp → Prop}
    (z : ∀ o, RkH P w (upd H a o) a (fun g r => if (g, r) = s then some k else L g r) (b + 1) → Z (upd H a o)) : RkPut P w H a t (nv k) Z := by
  obtain ⟨kvs, h1, h2, h3⟩ := h
  refine ⟨_, kvs, (k : Int), h1, hs, rfl, by omega, fun o ho => z o ⟨_, ho, ?_, fun g p => ?_⟩⟩
  · have := length_putN kvs (asI s.1, (s.2 : Int)) (k : Int)
    omega
  · rw [getN_put]
    by_cases c : (g, p) = s
    · subst c
      rw [if_pos rfl]
      show some (k : Int) = Option.map _ (if (g, p) = (g, p) then some k else L g p)
      rw [if_pos rfl]
      rfl
    · have c2 : ¬ (asI g, (p : Int)) = (asI s.1, (s.2 : Int)) := fun e => c (by
        injection e with e1 e2
        have e3 := asI_inj e1
        have e4 : p = s.2 := by omega
        rw [e3, e4])
      rw [if_neg c2, h3]
      show _ = Option.map _ (if (g, p) = s then some k else L g p)
      rw [if_neg c]
theorem RkH.new {P : Program} {w : World} {H : Hp} {a : Addr} (h : RkAt P w H a []) (b : Nat) : RkH P w H a (fun _ _ => none) b := ⟨[], h, Nat.zero_le _, fun g p => rfl⟩
theorem RkH.eqv {P : Program} {w : World} {H : Hp} {a : Addr} {L L' : Rk} {b b' : Nat} (h : RkH P w H a L b) (e : ∀ g r, L g r = L' g r) (hb : b ≤ b') : RkH P w H a L' b' := by
  obtain ⟨kvs, h1, h2, h3⟩ := h
  exact ⟨kvs, h1, by omega, fun g p => by rw [h3, e]⟩
theorem paired_ext2 {α β : Type} {R S : α → β → Prop} (h : ∀ a b, R a b → S a b) {xs : List α} {ys : List β} (p : Paired R xs ys) : Paired S xs ys := Paired.mapP p h
theorem KnH.ext {H H' F F' : Hp} {d : Addr} {ks : List (List Nat × List (List Nat))} (h : KnH H F d ks) (e : Same F F') (hd : ∀ o, H d = some o → H' d = some o) : KnH H' F' d ks := by
  obtain ⟨kvs, h1, h2, h3⟩ := h
  exact ⟨kvs, hd _ h1, h2, paired_ext2 (fun kv k h => ⟨h.1, h.2.ext e⟩) h3⟩
/-- some standings more have the same rank -/
theorem upL_snoc (L : Rk) (m : List (List Nat × Nat)) (s : List Nat × Nat) (t : Nat) (g : List Nat) (r : Nat) : (if (g, r) = s then some t else upL L m t g r) = upL L (m ++ [s]) t g r := by
  unfold upL
  by_cases c : (g, r) = s
  · rw [if_pos c, if_pos (by rw [c]; simp)]
  · rw [if_neg c]
    by_cases c2 : (g, r) ∈ m
    · rw [if_pos c2, if_pos (List.mem_append_left _ c2)]
    · rw [if_neg c2, if_neg (fun h => by
        rcases List.mem_append.mp h with h | h
        · exact c2 h
        · exact c (List.mem_singleton.mp h))]
theorem unr_le (n : Nat) (css : List (List Nat)) (L : Rk) : unr n css L ≤ css.length * n := by
  unfold unr
  refine Nat.le_trans (List.length_filter_le _ _) ?_
  rw [List.length_flatMap]
  have : (css.map fun cs => ((List.range n).map fun r => (cs, r)).length) = List.replicate css.length n := by
    rw [List.eq_replicate_iff]
    simp
  rw [this]
  simp
end CF

namespace CF
open PySem L2 PyProof.Rows
/-! ### rank -/
theorem asI_toNat {is : List Int} (h : ∀ i ∈ is, 0 ≤ i) : asI (is.map Int.toNat) = is := by
  unfold asI
  rw [List.map_map]
  conv => rhs; rw [← List.map_id is]
  refine List.map_congr_left fun i hi => ?_
  have := h i hi
  show ((i.toNat : Nat) : Int) = i
  omega
theorem standB_true {n : Nat} {is : List Int} {r : Int} (h : standB n is r = true) : ∃ (cs : List Nat) (k : Nat), is = asI cs ∧ r = (k : Int) ∧ 1 ≤ cs.length ∧ cs.length ≤ 2 ∧ (∀ p ∈ cs, p < n) ∧ k < n := by
  unfold standB at h
  simp only [Bool.and_eq_true, decide_eq_true_eq, List.all_eq_true] at h
  obtain ⟨⟨h1, h2⟩, h3⟩ := h
  have hr := h3 r (by simp)
  have hi : ∀ i ∈ is, 0 ≤ i ∧ i < n := fun i hi => h3 i (List.mem_append_left _ hi)
  refine ⟨is.map Int.toNat, r.toNat, (asI_toNat fun i h => (hi i h).1).symm, by omega, by simpa using h1, by simpa using h2, fun p hp => ?_, by omega⟩
  obtain ⟨i, hi', rfl⟩ := List.mem_map.mp hp
  have := hi i hi'
  omega
theorem intsV_asI (cs : List Nat) : intsV (asI cs) = cs.map nv := by
  unfold intsV
  exact asI_nv cs
theorem asI_len (cs : List Nat) : (asI cs).length = cs.length := by simp [asI]
theorem getN_op {o : Option Nat} : ((o.map fun (k : Nat) => (k : Int)).map V.int).getD V.non = opN o := by
  cases o <;> rfl
def spRank (C CN : Addr) : Sp := fun vs H Q E => ∃ (F : Hp) (v : V) (n : Nat) (ds : List (Int × Int)) (a : Addr) (is : List Int) (r : Int), vs = [v, .ref a, .int r] ∧ Same F H ∧ FlrAt C F v n ds ∧ n ≤ 6 ∧ F a = some (.lst (intsV is)) ∧ is.length ≤ 1000 ∧
  (∀ (cs : List Nat) (k : Nat), is = asI cs → r = (k : Int) → standB n is r = true → ∀ F' H', Grow F H F' H' → Q (opN (ranksF n ds cs.length cs k)) H') ∧ (standB n is r = false → ∀ H', Grow F H F H' → E (.ref CN) none H')
end CF

namespace CF
open PySem L2 PyProof.Rows
/-! ### the law's helpers: promises -/
def cellF (sc : List Int) (k : Int) : Int := sc.getD k.toNat 0
def ScrAt (K : PySem.W.Frag) (F : Hp) (a : Addr) (sc : List Int) : Prop := SqL K F a (intsV sc) ∧ sc.length ≤ 1000
theorem ScrAt.ext {K : PySem.W.Frag} {F F' : Hp} {a : Addr} {sc : List Int} (h : ScrAt K F a sc) (e : Same F F') : ScrAt K F' a sc := ⟨e.seq h.1, h.2⟩
def spCell (K : PySem.W.Frag) : Sp := fun vs H Q _ => ∃ (a : Addr) (sc : List Int) (k : Int), vs = [.ref a, .int k] ∧ ScrAt K H a sc ∧ 0 ≤ k ∧ Q (.int (cellF sc k)) H
def spLNear : Sp := fun vs H Q _ => ∃ (F : Hp) (n : Nat) (v : V) (ds : List (Int × Int)) (p : Nat), vs = [nv n, v, nv p] ∧ Same F H ∧ PairL F v ds ∧ n ≤ 100 ∧
  ∀ F' H' u, Grow F H F' H' → NatL F' u (nearF n ds p) → Q u H'
def spLGo : Sp := fun vs H Q _ => ∃ (F : Hp) (v u : V) (ar : List (List Nat)) (cs : List Nat), vs = [v, u] ∧ Same F H ∧ NatLL F v ar ∧ (NatT F u cs ∨ NatL F u cs) ∧ cs.length ≤ 2 ∧ (∀ l ∈ ar, l.length ≤ 100) ∧ (∀ p ∈ cs, p < ar.length) ∧
  ∀ F' H' u, Grow F H F' H' → NatTL F' u (glF ar cs) → Q u H'
def spLWorst (P : Program) (w : World) : Sp := fun vs H Q _ => ∃ (F : Hp) (v : V) (ar : List (List Nat)) (a : Addr) (L : Rk) (b : Nat) (u : V) (g : List Nat) (r : Nat), vs = [v, .ref a, u, nv r] ∧ Same F H ∧ NatLL F v ar ∧ RkH P w H a L b ∧ NatT F u g ∧ r < ar.length ∧ (∀ l ∈ ar, l ≠ [] ∧ l.length ≤ 100) ∧
  ∀ F' H', Grow F H F' H' → Q (opN (behF (ar.getD r []) L g r)) H'
theorem mnI_comm (a b : Int) : mnI a b = mnI b a := by
  unfold mnI
  split <;> split <;> omega
theorem mxI_comm (a b : Int) : mxI a b = mxI b a := by
  unfold mxI
  split <;> split <;> omega
theorem joinsB_comm (ds : List (Int × Int)) (p q : Int) : joinsB ds p q = joinsB ds q p := by
  unfold joinsB
  rw [mnI_comm, mxI_comm]
  congr 1
  exact decide_eq_decide.mpr ⟨Eq.symm, Eq.symm⟩
/-- the greatest, where all have a rank -/
theorem behAll (L : Rk) (g : List Nat) : ∀ (l : List Nat) (m : Nat), (∀ p ∈ l, (L g p).isSome = true) → ∃ M, l.foldl (behStep L g) (some m) = some M ∧ m ≤ M ∧ (M = m ∨ ∃ p ∈ l, L g p = some M) ∧ ∀ p ∈ l, ∀ k, L g p = some k → k ≤ M
  | [], m, _ => ⟨m, rfl, Nat.le_refl _, .inl rfl, fun p hp => by cases hp⟩
  | p :: l, m, h => by
    obtain ⟨k, hk⟩ := Option.isSome_iff_exists.mp (h p List.mem_cons_self)
    obtain ⟨M, h1, h2, h3, h4⟩ := behAll L g l (if k > m then k else m) fun q hq => h q (List.mem_cons_of_mem _ hq)
    have e : behStep L g (some m) p = some (if k > m then k else m) := by
      unfold behStep
      rw [hk]
    refine ⟨M, by rw [List.foldl_cons, e, h1], ?_, ?_, ?_⟩
    · split at h2 <;> omega
    · rcases h3 with h3 | ⟨q, hq, h3⟩
      · by_cases c : k > m
        · rw [if_pos c] at h3
          exact .inr ⟨p, List.mem_cons_self, by rw [hk, h3]⟩
        · rw [if_neg c] at h3
          exact .inl h3
      · exact .inr ⟨q, List.mem_cons_of_mem _ hq, h3⟩
    · intro q hq k' hk'
      rcases List.mem_cons.mp hq with e1 | hq
      · subst e1
        rw [hk] at hk'
        cases hk'
        split at h2 <;> omega
      · exact h4 q hq k' hk'
theorem behSome (L : Rk) (g : List Nat) : ∀ (l : List Nat) (m : Nat), (∃ p ∈ l, L g p = none) → l.foldl (behStep L g) (some m) = none
  | [], _, ⟨p, hp, _⟩ => by cases hp
  | p :: l, m, ⟨q, hq, h⟩ => by
    rw [List.foldl_cons]
    cases hk : L g p with
    | none =>
      have e : behStep L g (some m) p = none := by
        unfold behStep
        rw [hk]
      rw [e, behNone]
    | some k =>
      have e : behStep L g (some m) p = some (if k > m then k else m) := by
        unfold behStep
        rw [hk]
      rw [e]
      refine behSome L g l _ ⟨q, ?_, h⟩
      rcases List.mem_cons.mp hq with e1 | hq
      · subst e1
        rw [hk] at h
        cases h
      · exact hq
def ROp (_ : Hp) (v : V) (o : Option Nat) : Prop := v = opN o
theorem rop_ext : ∀ F F' v x, Same F F' → ROp F v x → ROp F' v x := fun _ _ _ _ _ h => h
theorem rop_map {F : Hp} {ys : List V} {ks : List (Option Nat)} (h : Paired (ROp F) ys ks) : ys = ks.map opN := by
  induction h with
  | nil => rfl
  | cons r t ih =>
    rw [List.map_cons, ← ih]
    congr 1
theorem flat_opN (ks : List (Option Nat)) : (ks.map opN).all flatV = true := by
  rw [List.all_eq_true]
  intro v hv
  obtain ⟨o, _, rfl⟩ := List.mem_map.mp hv
  cases o <;> rfl
theorem inV_opN (ks : List (Option Nat)) : (if false = true then !inV .non (ks.map opN) else inV .non (ks.map opN)) = decide (none ∈ ks) := by
  rw [if_neg (by decide)]
  unfold inV
  rw [List.any_map, Bool.eq_iff_iff, List.any_eq_true, decide_eq_true_eq]
  constructor
  · rintro ⟨x, hx, e⟩
    cases x with
    | none => exact hx
    | some k => exact absurd e (by show ¬ ((nv k : V) == V.non) = true; simp [nv])
  · intro h
    exact ⟨none, h, beq_self_eq_true V.non⟩
theorem all_some {ks : List (Option Nat)} (h : none ∉ ks) : ∃ ns : List Nat, ks = ns.map some := by
  induction ks with
  | nil => exact ⟨[], rfl⟩
  | cons o ks ih =>
    obtain ⟨ns, rfl⟩ := ih fun z => h (List.mem_cons_of_mem _ z)
    cases o with
    | none => exact absurd List.mem_cons_self h
    | some k => exact ⟨k :: ns, rfl⟩
/-! ### over a tuple or a list -/
theorem pi_alt {X : Cx} {tg it : Expr} {w1 w2 : TI} (h1 : PI X tg it w1) (h2 : PI X tg it w2) : PI X tg it (fun σ H R => w1 σ H R ∨ w2 σ H R) :=
  ⟨fun pins s σ H R I h => h.elim (fun h => h1.run pins s σ H R I h) fun h => h2.run pins s σ H R I h⟩
theorem for_mode {K : PySem.W.Frag} {tl : TE} {g : TG} {tb : TS} {D : Ends} {σ : L2.St} {H : Hp} {a : Addr} {xs : List V} (m : Bool) (hv : ∀ Q : VK, Q (.ref a) H → tl σ H Q) (Pv : Nat → L2.St → Hp → Prop) (h0 : Pv 0 σ H) (hq : ∀ i σ H, i ≤ xs.length → Pv i σ H → if m = true then SqT K H a xs else SqL K H a xs)
    (hs : ∀ i x σ H, xs[i]? = some x → Pv i σ H → g x σ H fun σ2 H2 => tb { D with nx := Pv (i + 1), ct := Pv (i + 1), bk := D.nx } σ2 H2) (hd : ∀ σ H, Pv xs.length σ H → D.nx σ H) : tFor (fun σ H R => iTup K tl σ H R ∨ iList K tl σ H R) g tb D σ H := by
  have q0 := hq 0 σ H (Nat.zero_le _) h0
  cases m with
  | true => exact .inl (hv _ ⟨a, rfl, ⟨xs, q0⟩, for_tup (K := K) (a := a) (xs := xs) Pv h0 (fun i σ H hi p => hq i σ H hi p) hs hd⟩)
  | false => exact .inr (hv _ ⟨a, rfl, ⟨xs, q0⟩, for_list (K := K) (a := a) (xs := xs) Pv h0 (fun i σ H hi p => hq i σ H hi p) hs hd⟩)
end CF

namespace CF
open PySem L2 PyProof.Rows
/-! ### a cut between two statements -/
def tCut (t : TS) : TS := fun D σ H => ∃ I : L2.St → Hp → Prop, t { D with nx := I } σ H ∧ ∀ σ' H', I σ' H' → D.nx σ' H'
theorem ps_cut {X : Cx} {st : Stmt} {t : TS} (h : PS X st t) : PS X st (tCut t) := by
  refine ⟨fun pins s σ H D I ⟨J, h1, h2⟩ => ?_⟩
  refine thn (h.run pins s σ H _ I h1) fun f s' q => ?_
  cases f with
  | next =>
    obtain ⟨σ', H', I', j⟩ := q
    exact ⟨σ', H', I', h2 _ _ j⟩
  | brk => exact q
  | cont => exact q
  | ret u => exact q
/-! ### the law's own ranks -/
def spLRanks (P : Program) (w : World) : Sp := fun vs H Q _ => ∃ (F : Hp) (n : Nat) (v : V) (ds : List (Int × Int)) (c : Nat), vs = [nv n, v, nv c] ∧ Same F H ∧ PairL F v ds ∧ 1 ≤ n ∧ n ≤ 6 ∧ (c = 1 ∨ c = 2) ∧ moreF (arF n ds) (lapN n ds c 40) (ksF (arF n ds) (cssF n c)) = [] ∧
  ∀ F' H' a, Grow F H F' H' → F' a = none → RkH P w H' a (ranksF n ds c) 100000 → H a = none → Q (.ref a) H'
theorem cssF_one (n : Nat) : cssF n 1 = (List.range n).map fun i => [i] := by
  unfold cssF goF goStep
  rw [List.replicate_succ, List.replicate_zero, List.foldl_cons, List.foldl_nil]
  simp
theorem cssF_two {n : Nat} (h : n ≤ 6) : cssF n 2 = (List.range (n * n)).map fun k => [k / n, k % n] := by
  have : n = 0 ∨ n = 1 ∨ n = 2 ∨ n = 3 ∨ n = 4 ∨ n = 5 ∨ n = 6 := by omega
  rcases this with rfl | rfl | rfl | rfl | rfl | rfl | rfl <;> decide
theorem made_none {α : Type} (l : List (Option α)) (k : Nat) (h : k = l.length) : made (fun i => (l[i]?).bind id) k = l.filterMap id := by
  subst h
  induction l with
  | nil => rfl
  | cons x l ih =>
    unfold made at ih ⊢
    rw [List.length_cons, List.range_succ_eq_map, List.filterMap_cons, List.filterMap_map, List.filterMap_cons]
    have e : ((fun i => ((x :: l)[i]?).bind id) ∘ Nat.succ) = fun i => (l[i]?).bind id := by
      funext i
      simp
    rw [e, ih]
    rfl
theorem filterMap_pos {l : List (Option Nat)} : (0 : Int) < ((l.filterMap id).length : Int) ↔ l.any Option.isSome = true := by
  rw [List.any_eq_true]
  constructor
  · intro h
    have : 0 < (l.filterMap id).length := by omega
    obtain ⟨k, hk⟩ := List.exists_mem_of_length_pos this
    obtain ⟨o, ho, e⟩ := List.mem_filterMap.mp hk
    exact ⟨o, ho, by rw [show o = some k from e]; rfl⟩
  · rintro ⟨o, ho, e⟩
    obtain ⟨k, rfl⟩ := Option.isSome_iff_exists.mp e
    have : k ∈ l.filterMap id := List.mem_filterMap.mpr ⟨some k, ho, rfl⟩
    have := List.length_pos_of_mem this
    omega
theorem arF_ne {n : Nat} {ds : List (Int × Int)} (hn : n ≤ 100) : ∀ l ∈ arF n ds, l ≠ [] ∧ l.length ≤ 100 := by
  intro l hl
  unfold arF at hl
  obtain ⟨p, hp, rfl⟩ := List.mem_map.mp hl
  have hpn := List.mem_range.mp hp
  constructor
  · intro e
    have : p ∈ nearF n ds p := by
      unfold nearF
      rw [List.mem_filter]
      exact ⟨hp, by simp [joinsB]⟩
    rw [e] at this
    cases this
  · unfold nearF
    have := List.length_filter_le (fun q : Nat => joinsB ds (p : Int) (q : Int)) (List.range n)
    rw [List.length_range] at this
    omega
theorem RkH.obj {P : Program} {w : World} {H : Hp} {a : Addr} {L : Rk} {b : Nat} (h : RkH P w H a L b) : ∃ xs, H a = some (dN P w a xs) := by
  obtain ⟨_, ⟨_, _, xs, h, _⟩, _⟩ := h
  exact ⟨xs, h⟩
/-- a dict of ranks, some thing else changes -/
theorem RkH.other {P : Program} {w : World} {H : Hp} {a l : Addr} {L : Rk} {b : Nat} {xs : List V} (h : RkH P w H a L b) (hl : H l = some (.lst xs)) (o : HO) : RkH P w (upd H l o) a L b := by
  obtain ⟨ks, ⟨h1, h2, ys, h3, h4⟩, hb, h5⟩ := h
  refine ⟨ks, ⟨h1, h2, ys, ?_, h4.ext fun c ys e => ?_⟩, hb, h5⟩
  · rw [upd_ne (ne_of h3 hl (by intro z; cases z))]
    exact h3
  · rw [upd_ne (ne_of e hl (by intro z; cases z))]
    exact e
theorem L0_snoc (ts : List (List Nat)) (cs : List Nat) (qs : List Nat) (p : Nat) (g : List Nat) (r : Nat) : (if (g, r) = (cs, p) then some 0 else if (g ∈ ts ∧ r ∈ g) ∨ (g = cs ∧ r ∈ qs) then some 0 else none) = if (g ∈ ts ∧ r ∈ g) ∨ (g = cs ∧ r ∈ qs ++ [p]) then some 0 else none := by
  by_cases e1 : (g, r) = (cs, p)
  · injection e1 with e1 e2
    subst e1 e2
    rw [if_pos rfl, if_pos (.inr ⟨rfl, by simp⟩)]
  · rw [if_neg e1]
    have : ((g ∈ ts ∧ r ∈ g) ∨ (g = cs ∧ r ∈ qs)) ↔ ((g ∈ ts ∧ r ∈ g) ∨ (g = cs ∧ r ∈ qs ++ [p])) := by
      constructor
      · rintro (h | ⟨h, h'⟩)
        · exact .inl h
        · exact .inr ⟨h, List.mem_append_left _ h'⟩
      · rintro (h | ⟨h, h'⟩)
        · exact .inl h
        · refine .inr ⟨h, ?_⟩
          rcases List.mem_append.mp h' with h'' | h''
          · exact h''
          · rw [List.mem_singleton] at h''
            exact absurd (by rw [h, h'']) e1
    by_cases c1 : (g ∈ ts ∧ r ∈ g) ∨ (g = cs ∧ r ∈ qs)
    · rw [if_pos c1, if_pos (this.mp c1)]
    · rw [if_neg c1, if_neg (fun z => c1 (this.mpr z))]
theorem L0_next (ts : List (List Nat)) (cs : List Nat) (g : List Nat) (r : Nat) : (if (g ∈ ts ∧ r ∈ g) ∨ (g = cs ∧ r ∈ cs) then some 0 else none) = L0F (ts ++ [cs]) g r := by
  unfold L0F
  have : ((g ∈ ts ∧ r ∈ g) ∨ (g = cs ∧ r ∈ cs)) ↔ (g ∈ ts ++ [cs] ∧ r ∈ g) := by
    rw [List.mem_append, List.mem_singleton]
    constructor
    · rintro (⟨h, h'⟩ | ⟨h, h'⟩)
      · exact ⟨.inl h, h'⟩
      · exact ⟨.inr h, h ▸ h'⟩
    · rintro ⟨h | h, h'⟩
      · exact .inl ⟨h, h'⟩
      · exact .inr ⟨h, h ▸ h'⟩
  by_cases c1 : (g ∈ ts ∧ r ∈ g) ∨ (g = cs ∧ r ∈ cs)
  · rw [if_pos c1, if_pos (this.mp c1)]
  · rw [if_neg c1, if_neg (fun z => c1 (this.mpr z))]
end CF

namespace CF
open PySem L2 PyProof.Rows
/-! ### what is a floor, in plain words -/
def ValP (n : Nat) (ps : List (Int × Int)) : Prop := ∀ p ∈ ps, 0 ≤ p.1 ∧ p.1 < p.2 ∧ p.2 < (n : Int)
/-- one place, and with it all -/
def Conn (n : Nat) (ps : List (Int × Int)) : Prop := ∀ S : Int → Prop, (∀ d ∈ ps, S d.1 ↔ S d.2) → ∀ x y : Int, 0 ≤ x → x < n → 0 ≤ y → y < n → S x → S y
structure FloOk (n : Nat) (ds : List (Int × Int)) : Prop where
  n1 : 1 ≤ n
  n6 : n ≤ 6
  srt : SrtP ds
  nd : ds.Nodup
  val : ValP n ds
  con : Conn n ds
  len : ds.length ≤ 100
/-! the mirror of what is reached is all -/
theorem addR_sub (R : List Int) (x : Int) : ∀ y ∈ R, y ∈ addR R x := fun y hy => by
  unfold addR
  split
  · exact hy
  · exact List.mem_append_left _ hy
theorem addR_mem (R : List Int) (x : Int) : x ∈ addR R x := by
  unfold addR
  split
  · assumption
  · simp
theorem addR_or {R : List Int} {x y : Int} (h : y ∈ addR R x) : y ∈ R ∨ y = x := by
  unfold addR at h
  split at h
  · exact .inl h
  · rcases List.mem_append.mp h with h | h
    · exact .inl h
    · exact .inr (List.mem_singleton.mp h)
theorem addR_nodup {R : List Int} (h : R.Nodup) (x : Int) : (addR R x).Nodup := by
  unfold addR
  split
  · exact h
  · rename_i c
    rw [List.nodup_append]
    refine ⟨h, by simp, fun a ha b hb e => ?_⟩
    rw [List.mem_singleton] at hb
    exact c (by rw [← hb, ← e]; exact ha)
theorem addR_le (R : List Int) (x : Int) : R.length ≤ (addR R x).length := by
  unfold addR
  split
  · exact Nat.le_refl _
  · simp
theorem addR_eq {R : List Int} {x : Int} (h : (addR R x).length = R.length) : x ∈ R := by
  unfold addR at h
  split at h
  · assumption
  · simp at h
theorem rStep_sub (R : List Int) (d : Int × Int) : ∀ y ∈ R, y ∈ rStep R d := fun y hy => by
  unfold rStep
  split
  · exact addR_sub _ _ _ (addR_sub _ _ _ hy)
  · exact hy
theorem rStep_nodup {R : List Int} (h : R.Nodup) (d : Int × Int) : (rStep R d).Nodup := by
  unfold rStep
  split
  · exact addR_nodup (addR_nodup h _) _
  · exact h
theorem rStep_le (R : List Int) (d : Int × Int) : R.length ≤ (rStep R d).length := by
  unfold rStep
  split
  · exact Nat.le_trans (addR_le _ _) (addR_le _ _)
  · exact Nat.le_refl _
theorem rStep_eq {R : List Int} {d : Int × Int} (h : (rStep R d).length = R.length) : rStep R d = R ∧ (d.1 ∈ R ↔ d.2 ∈ R) := by
  unfold rStep at h ⊢
  by_cases c : d.1 ∈ R ∨ d.2 ∈ R
  · rw [if_pos c] at h ⊢
    have h1 := addR_le R d.1
    have h2 := addR_le (addR R d.1) d.2
    have e1 : d.1 ∈ R := addR_eq (by omega)
    have e2 : addR R d.1 = R := by
      unfold addR
      rw [if_pos e1]
    rw [e2] at h ⊢
    have e3 : d.2 ∈ R := addR_eq h
    exact ⟨by unfold addR; rw [if_pos e3], ⟨fun _ => e3, fun _ => e1⟩⟩
  · rw [if_neg c]
    exact ⟨rfl, ⟨fun h => absurd (.inl h) c, fun h => absurd (.inr h) c⟩⟩
theorem rLap_le : ∀ (ds : List (Int × Int)) (R : List Int), R.length ≤ (rLap ds R).length
  | [], R => Nat.le_refl _
  | d :: ds, R => Nat.le_trans (rStep_le R d) (rLap_le ds (rStep R d))
theorem rLap_sub : ∀ (ds : List (Int × Int)) (R : List Int), ∀ y ∈ R, y ∈ rLap ds R
  | [], _, _, h => h
  | d :: ds, R, y, h => rLap_sub ds (rStep R d) y (rStep_sub R d y h)
theorem rLap_nodup : ∀ (ds : List (Int × Int)) {R : List Int}, R.Nodup → (rLap ds R).Nodup
  | [], _, h => h
  | d :: ds, _, h => rLap_nodup ds (rStep_nodup h d)
theorem rLap_eq : ∀ (ds : List (Int × Int)) {R : List Int}, (rLap ds R).length = R.length → rLap ds R = R ∧ ∀ d ∈ ds, d.1 ∈ R ↔ d.2 ∈ R
  | [], _, _ => ⟨rfl, fun d hd => by cases hd⟩
  | d :: ds, R, h => by
    have h1 := rStep_le R d
    have h2 := rLap_le ds (rStep R d)
    have h : (rLap ds (rStep R d)).length = R.length := h
    obtain ⟨e1, e2⟩ := rStep_eq (R := R) (d := d) (by omega)
    rw [e1] at h
    obtain ⟨e3, e4⟩ := rLap_eq ds h
    refine ⟨?_, fun d' hd' => ?_⟩
    · show rLap ds (rStep R d) = R
      rw [e1, e3]
    · rcases List.mem_cons.mp hd' with rfl | h'
      · exact e2
      · exact e4 d' h'
theorem rLap_in {n : Nat} : ∀ (ds : List (Int × Int)) {R : List Int}, ValP n ds → (∀ y ∈ R, 0 ≤ y ∧ y < n) → ∀ y ∈ rLap ds R, 0 ≤ y ∧ y < n
  | [], _, _, h => h
  | d :: ds, R, hv, h => by
    obtain ⟨v1, v2, v3⟩ := hv d List.mem_cons_self
    refine rLap_in (n := n) ds (fun p hp => hv p (List.mem_cons_of_mem _ hp)) fun y hy => ?_
    unfold rStep at hy
    split at hy
    · rcases addR_or hy with hy | hy
      · rcases addR_or hy with hy | hy
        · exact h y hy
        · omega
      · omega
    · exact h y hy
theorem nodup_sub {α : Type} [DecidableEq α] : ∀ {l1 l2 : List α}, l1.Nodup → (∀ x ∈ l1, x ∈ l2) → l1.length ≤ l2.length
  | [], _, _, _ => Nat.zero_le _
  | x :: l1, l2, h, hs => by
    obtain ⟨h1, h2⟩ := List.nodup_cons.mp h
    have hx := hs x List.mem_cons_self
    have := nodup_sub (l2 := l2.erase x) h2 fun y hy => (List.mem_erase_of_ne (fun e => h1 (by rw [← e]; exact hy))).mpr (hs y (List.mem_cons_of_mem _ hy))
    rw [List.length_erase_of_mem hx] at this
    have := List.length_pos_of_mem hx
    rw [List.length_cons]
    omega
theorem nodup_len {n : Nat} {R : List Int} (h : R.Nodup) (hi : ∀ y ∈ R, 0 ≤ y ∧ y < (n : Int)) : R.length ≤ n := by
  have h1 : (R.map Int.toNat).Nodup := List.pairwise_map.mpr (List.Pairwise.imp_of_mem (fun {a b} ha hb hab e => hab (by have := hi a ha; have := hi b hb; omega)) h)
  have h2 := (List.nodup_range (n := n))
  have h3 : (R.map Int.toNat).length ≤ (List.range n).length := by
    refine nodup_sub h1 fun k hk => ?_
    obtain ⟨y, hy, rfl⟩ := List.mem_map.mp hk
    have := hi y hy
    exact List.mem_range.mpr (by omega)
  simpa using h3
theorem nodup_all {n : Nat} {R : List Int} (hall : ∀ y : Int, 0 ≤ y → y < n → y ∈ R) : n ≤ R.length := by
  have h2 : (List.range n).length ≤ R.length := by
    have h0 : ((List.range n).map fun (k : Nat) => (k : Int)).Nodup := List.pairwise_map.mpr (List.Pairwise.imp (fun {a b} hab e => hab (by omega)) List.nodup_range)
    have := nodup_sub (l2 := R) h0 (fun y hy => by
      obtain ⟨k, hk, rfl⟩ := List.mem_map.mp hy
      have := List.mem_range.mp hk
      exact hall _ (by omega) (by omega))
    simpa using this
  simpa using h2
theorem reached_of {n : Nat} {ds : List (Int × Int)} (hn : 1 ≤ n) (hv : ValP n ds) (hc : Conn n ds) : reachedB n ds = true := by
  have key : ∀ k, (rLaps ds k).Nodup ∧ (∀ y ∈ rLaps ds k, 0 ≤ y ∧ y < (n : Int)) ∧ (0 : Int) ∈ rLaps ds k ∧ ((rLaps ds k).length = n ∨ k + 1 ≤ (rLaps ds k).length) := fun k => by
    induction k with
    | zero => exact ⟨by simp [rLaps], fun y hy => by simp [rLaps] at hy; omega, by simp [rLaps], .inr (by simp [rLaps])⟩
    | succ k ih =>
      obtain ⟨h1, h2, h3, h4⟩ := ih
      have n1 : (rLaps ds (k + 1)).Nodup := rLap_nodup ds h1
      have n2 : ∀ y ∈ rLaps ds (k + 1), 0 ≤ y ∧ y < (n : Int) := rLap_in (n := n) ds hv h2
      refine ⟨n1, n2, rLap_sub ds _ _ h3, ?_⟩
      have hle := rLap_le ds (rLaps ds k)
      by_cases c : (rLap ds (rLaps ds k)).length = (rLaps ds k).length
      · obtain ⟨e1, e2⟩ := rLap_eq ds c
        left
        have hall : ∀ y : Int, 0 ≤ y → y < n → y ∈ rLaps ds k := fun y hy hy' => hc (fun z => z ∈ rLaps ds k) e2 0 y (by omega) (by omega) hy hy' h3
        have h5 := nodup_all hall
        have h6 := nodup_len h1 h2
        show (rLap ds (rLaps ds k)).length = n
        omega
      · have h6 := nodup_len n1 n2
        have h6 : (rLap ds (rLaps ds k)).length ≤ n := h6
        have hh : (rLaps ds (k + 1)).length = (rLap ds (rLaps ds k)).length := rfl
        omega
  obtain ⟨h1, h2, _, h4⟩ := key n
  have h5 := nodup_len h1 h2
  unfold reachedB
  rw [beq_iff_eq]
  omega
theorem FloOk.floorB {n : Nat} {ds : List (Int × Int)} (h : FloOk n ds) : floorB (n : Int) ds = true := by
  have h1 := h.n1
  have h6 := h.n6
  unfold CF.floorB
  rw [decide_eq_true (by omega : (1 : Int) ≤ n), decide_eq_true (by omega : (n : Int) ≤ 6), Int.toNat_natCast, reached_of h.n1 h.val h.con]
  rw [Bool.and_true, Bool.true_and, Bool.true_and]
  unfold goodB
  rw [List.all_eq_true]
  intro k hk
  have hk := List.mem_range.mp hk
  unfold goodAt
  rw [List.getElem?_eq_getElem hk]
  obtain ⟨v1, v2, v3⟩ := h.val _ (List.getElem_mem hk)
  show (decide (0 ≤ ds[k].1) && decide (ds[k].1 < ds[k].2) && decide (ds[k].2 < (n : Int)) && prevB ds ds[k] k) = true
  rw [decide_eq_true v1, decide_eq_true v2, decide_eq_true v3]
  simp only [Bool.true_and]
  cases k with
  | zero => rfl
  | succ j =>
    have e : prevB ds ds[j + 1] (j + 1) = !geP ds[j] ds[j + 1] := by
      show (match ds[j]? with | some c => !geP c ds[j + 1] | none => false) = _
      rw [List.getElem?_eq_getElem (by omega)]
    rw [e]
    have hs := h.srt
    have hne : ds[j] ≠ ds[j + 1] := fun e => by
      have := (List.getElem_inj h.nd).mp e
      omega
    have hs2 := List.pairwise_iff_getElem.mp hs j (j + 1) (by omega) hk (by omega)
    generalize ds[j] = p at hne hs2
    generalize ds[j + 1] = q at hne hs2
    have hs2 : (if q.1 = p.1 then decide (q.2 < p.2) else decide (q.1 < p.1)) = false := hs2
    have hne2 : ¬ (p.1 = q.1 ∧ p.2 = q.2) := fun e => hne (Prod.ext e.1 e.2)
    unfold geP
    by_cases c : p.1 = q.1
    · rw [if_pos c.symm, decide_eq_false_iff_not] at hs2
      rw [if_pos c, decide_eq_false (by omega)]
      rfl
    · rw [if_neg (fun z => c z.symm), decide_eq_false_iff_not] at hs2
      rw [if_neg c, decide_eq_false (by omega)]
      rfl
end CF

namespace CF
open PySem L2 PyProof.Rows
/-! ### doors in a dict -/
def addP (ps : List (Int × Int)) (p : Int × Int) : List (Int × Int) := if p ∈ ps then ps else ps ++ [p]
def pD (ps : List (Int × Int)) : List (List Key × V) := ps.map fun p => (kyP p, V.bl true)
theorem kyP_inj {p q : Int × Int} (h : kyP p = kyP q) : p = q := by
  unfold kyP at h
  injection h with h1 h2
  injection h2 with h2 _
  exact Prod.ext (Sum.inl.inj h1) (Sum.inl.inj h2)
theorem pD_val (p : Int × Int) : ∀ ps : List (Int × Int), valV (pD ps) (kyP p) = if p ∈ ps then some (.bl true) else none
  | [] => rfl
  | y :: R => by
    have ih := pD_val p R
    unfold pD at ih ⊢
    rw [List.map_cons]
    by_cases e : y = p
    · subst e
      rw [valV_pos rfl, if_pos List.mem_cons_self]
    · have e' : ¬ kyP y = kyP p := fun z => e (kyP_inj z)
      rw [valV_neg e', ih]
      have : (p ∈ y :: R) ↔ p ∈ R := by
        rw [List.mem_cons]
        constructor
        · rintro (h | h)
          · exact absurd h.symm e
          · exact h
        · exact .inr
      by_cases c : p ∈ R
      · rw [if_pos c, if_pos (this.mpr c)]
      · rw [if_neg c, if_neg (fun z => c (this.mp z))]
theorem pD_isSome (x : Int × Int) (R : List (Int × Int)) : (valV (pD R) (kyP x)).isSome = decide (x ∈ R) := by
  rw [pD_val]
  by_cases c : x ∈ R
  · rw [if_pos c, decide_eq_true c]
    rfl
  · rw [if_neg c, decide_eq_false c]
    rfl
theorem pD_put (x : Int × Int) (R : List (Int × Int)) : putK (pD R) (kyP x) (.bl true) = pD (addP R x) := by
  unfold putK addP
  rw [valV_any, pD_isSome]
  by_cases c : x ∈ R
  · rw [if_pos c, if_pos (decide_eq_true c)]
    unfold pD
    rw [List.map_map]
    refine List.map_congr_left fun y _ => ?_
    show (if kyP y = kyP x then _ else _) = _
    split <;> rfl
  · rw [if_neg c, if_neg (by simpa using c)]
    unfold pD
    rw [List.map_append]
    rfl
theorem pD_keys (ps : List (Int × Int)) : (pD ps).map (·.1) = ps.map kyP := by
  unfold pD
  rw [List.map_map]
  rfl
theorem pD_len (ps : List (Int × Int)) : (pD ps).length = ps.length := List.length_map ..
theorem addP_sub (R : List (Int × Int)) (x : Int × Int) : ∀ y ∈ R, y ∈ addP R x := fun y hy => by
  unfold addP
  split
  · exact hy
  · exact List.mem_append_left _ hy
theorem addP_mem (R : List (Int × Int)) (x : Int × Int) : x ∈ addP R x := by
  unfold addP
  split
  · assumption
  · simp
theorem addP_or {R : List (Int × Int)} {x y : Int × Int} (h : y ∈ addP R x) : y ∈ R ∨ y = x := by
  unfold addP at h
  split at h
  · exact .inl h
  · rcases List.mem_append.mp h with h | h
    · exact .inl h
    · exact .inr (List.mem_singleton.mp h)
theorem addP_nodup {R : List (Int × Int)} (h : R.Nodup) (x : Int × Int) : (addP R x).Nodup := by
  unfold addP
  split
  · exact h
  · rename_i c
    rw [List.nodup_append]
    refine ⟨h, by simp, fun a ha b hb e => ?_⟩
    rw [List.mem_singleton] at hb
    exact c (by rw [← hb, ← e]; exact ha)
theorem addP_len (R : List (Int × Int)) (x : Int × Int) : (addP R x).length ≤ R.length + 1 := by
  unfold addP
  split
  · omega
  · simp
theorem ValP.add {n : Nat} {R : List (Int × Int)} {x : Int × Int} (h : ValP n R) (h1 : 0 ≤ x.1) (h2 : x.1 < x.2) (h3 : x.2 < (n : Int)) : ValP n (addP R x) := fun p hp => by
  rcases addP_or hp with hp | rfl
  · exact h p hp
  · exact ⟨h1, h2, h3⟩
/-! ### trees join -/
def Tree (n : Nat) (ps : List (Int × Int)) : Prop := ∀ q : Int, 1 ≤ q → q < n → ∃ p ∈ ps, p.2 = q ∧ 0 ≤ p.1 ∧ p.1 < q
theorem Tree.mono {n : Nat} {ps qs : List (Int × Int)} (h : Tree n ps) (hs : ∀ p ∈ ps, p ∈ qs) : Tree n qs := fun q h1 h2 => by
  obtain ⟨p, hp, r⟩ := h q h1 h2
  exact ⟨p, hs p hp, r⟩
theorem Tree.conn {n : Nat} {ps : List (Int × Int)} (h : Tree n ps) : Conn n ps := by
  intro S hS
  have key : ∀ m : Nat, m < n → (S (m : Int) ↔ S 0) := fun m => by
    induction m using Nat.strongRecOn with
    | _ m ih =>
      intro hm
      by_cases c : m = 0
      · subst c
        exact Iff.rfl
      · obtain ⟨p, hp, e, h1, h2⟩ := h m (by omega) (by omega)
        have h3 := hS p hp
        rw [e] at h3
        have h4 := ih p.1.toNat (by omega) (by omega)
        rw [show ((p.1.toNat : Nat) : Int) = p.1 by omega] at h4
        exact h3.symm.trans h4
  intro x y hx hx' hy hy' sx
  have k1 := key x.toNat (by omega)
  have k2 := key y.toNat (by omega)
  rw [show ((x.toNat : Nat) : Int) = x by omega] at k1
  rw [show ((y.toNat : Nat) : Int) = y by omega] at k2
  exact k2.mpr (k1.mp sx)
theorem Conn.mono {n : Nat} {ps qs : List (Int × Int)} (h : Conn n ps) (hs : ∀ p ∈ ps, p ∈ qs) : Conn n qs := fun S hS => h S fun d hd => hS d (hs d hd)
def revP (n : Nat) (p : Int × Int) : Int × Int := ((n : Int) - 1 - p.2, (n : Int) - 1 - p.1)
theorem Conn.rev {n : Nat} {ps : List (Int × Int)} (h : Conn n ps) : Conn n (ps.map (revP n)) := fun S hS x y hx hx' hy hy' sx => by
  have := h (fun z => S ((n : Int) - 1 - z)) (fun d hd => (hS _ (List.mem_map.mpr ⟨d, hd, rfl⟩)).symm) ((n : Int) - 1 - x) ((n : Int) - 1 - y) (by omega) (by omega) (by omega) (by omega)
    (by rw [show (n : Int) - 1 - ((n : Int) - 1 - x) = x by omega]; exact sx)
  rwa [show (n : Int) - 1 - ((n : Int) - 1 - y) = y by omega] at this
theorem ValP.rev {n : Nat} {ps : List (Int × Int)} (h : ValP n ps) : ValP n (ps.map (revP n)) := fun p hp => by
  obtain ⟨q, hq, rfl⟩ := List.mem_map.mp hp
  obtain ⟨h1, h2, h3⟩ := h q hq
  unfold revP
  exact ⟨by show (0 : Int) ≤ n - 1 - q.2; omega, by show (n : Int) - 1 - q.2 < n - 1 - q.1; omega, by show (n : Int) - 1 - q.1 < n; omega⟩
theorem rev_nodup {n : Nat} {ps : List (Int × Int)} (h : ps.Nodup) : (ps.map (revP n)).Nodup := List.pairwise_map.mpr (List.Pairwise.imp (fun {a b} hab e => hab (by
  unfold revP at e
  injection e with e1 e2
  exact Prod.ext (by omega) (by omega))) h)
def ringP (n : Nat) : List (Int × Int) := ((List.range (n - 1)).map fun (k : Nat) => ((k : Int), (k : Int) + 1)) ++ [(0, (n : Int) - 1)]
theorem ring_val {n : Nat} (hn : 3 ≤ n) : ValP n (ringP n) := fun p hp => by
  rcases List.mem_append.mp hp with h | h
  · obtain ⟨k, hk, rfl⟩ := List.mem_map.mp h
    have := List.mem_range.mp hk
    exact ⟨by show (0 : Int) ≤ k; omega, by show (k : Int) < k + 1; omega, by show (k : Int) + 1 < n; omega⟩
  · rw [List.mem_singleton] at h
    subst h
    exact ⟨by show (0 : Int) ≤ 0; decide, by show (0 : Int) < n - 1; omega, by show (n : Int) - 1 < n; omega⟩
theorem ring_nodup {n : Nat} (hn : 3 ≤ n) : (ringP n).Nodup := by
  unfold ringP
  rw [List.nodup_append]
  refine ⟨List.pairwise_map.mpr (List.Pairwise.imp (fun {a b} hab e => hab (by injection e with e1 e2; omega)) List.nodup_range), by simp, fun a ha b hb e => ?_⟩
  rw [List.mem_singleton] at hb
  obtain ⟨k, hk, rfl⟩ := List.mem_map.mp ha
  subst hb
  injection e with e1 e2
  have := List.mem_range.mp hk
  omega
theorem ring_tree {n : Nat} : Tree n (ringP n) := fun q h1 h2 => by
  refine ⟨(q - 1, q), List.mem_append_left _ (List.mem_map.mpr ⟨(q - 1).toNat, List.mem_range.mpr (by omega), ?_⟩), rfl, by show (0 : Int) ≤ q - 1; omega, by show q - 1 < q; omega⟩
  exact Prod.ext (by show (((q - 1).toNat : Nat) : Int) = q - 1; omega) (by show (((q - 1).toNat : Nat) : Int) + 1 = q; omega)
theorem FloOk.of {n : Nat} {ps qs : List (Int × Int)} (h1 : 1 ≤ n) (h6 : n ≤ 6) (hs : SrtP qs) (hp : qs.Perm ps) (nd : ps.Nodup) (val : ValP n ps) (con : Conn n ps) (hl : ps.length ≤ 100) : FloOk n qs :=
  ⟨h1, h6, hs, hp.nodup_iff.mpr nd, fun p h => val p (hp.mem_iff.mp h), con.mono fun p h => hp.mem_iff.mpr h, by rw [hp.length_eq]; exact hl⟩
/-- the law's floor -/
def spLFloor (K : PySem.W.Frag) : Sp := fun vs H Q _ => ∃ (F : Hp) (a : Addr) (sc : List Int) (most : Nat), vs = [.ref a, nv most] ∧ Same F H ∧ ScrAt K F a sc ∧ 3 ≤ most ∧ most ≤ 6 ∧
  ∀ F' H' n ds t l, Grow F H F' H' → FloOk n ds → n ≤ most → F' t = some (.tup [nv n, l]) → PairL F' l ds → Q (.ref t) H'
/-- chasers and a runner -/
def spLStand (K : PySem.W.Frag) : Sp := fun vs H Q _ => ∃ (F : Hp) (a : Addr) (sc : List Int) (at_ n c : Nat), vs = [.ref a, nv at_, nv n, nv c] ∧ Same F H ∧ ScrAt K F a sc ∧ 1 ≤ n ∧ c ≤ 100 ∧
  ∀ F' H' t l cs r, Grow F H F' H' → cs.length = c → (∀ p ∈ cs, p < n) → r < n → F' t = some (.tup [l, nv r]) → NatL F' l cs → (∃ b, l = .ref b ∧ H b = none) → Q (.ref t) H'
/-- pairs of the heap come into the view -/
theorem grow_prs {G H F H' : Hp} {ys : List V} {ps : List (Int × Int)} (g : Grow G H F H') (h : Paired (PairT H') ys ps) : ∃ F', Grow G H F' H' ∧ Same F F' ∧ Paired (PairT F') ys ps := by
  induction h with
  | nil => exact ⟨F, g, Same.refl _, .nil⟩
  | @cons y p ys ps r _ ih =>
    obtain ⟨F1, g1, s1, p1⟩ := ih
    obtain ⟨t, rfl, e⟩ := r
    have s2 := Grow.tupl_ss g1.sub e
    exact ⟨upd F1 t (.tup [.int p.1, .int p.2]), g1.tupl e, s1.trans s2, .cons ⟨t, rfl, upd_same⟩ (paired_ext (fun _ _ h => h.ext s2) p1)⟩
theorem emod_nat (x : Int) {n : Nat} (h : 1 ≤ n) : ∃ k : Nat, x % (n : Int) = k ∧ k < n := by
  have h1 := Int.emod_nonneg x (b := (n : Int)) (by omega)
  have h2 := Int.emod_lt_of_pos x (b := (n : Int)) (by omega)
  exact ⟨(x % (n : Int)).toNat, by omega, by omega⟩
/-- a turn over pairs, without a test -/
theorem cs_yesP {K : PySem.W.Frag} {te : TE} {vs : List Nat} {σ : L2.St} {t : Addr} {H : Hp} {Q : Option V → Hp → Prop} {i j : Nat} {p : Int × Int} (ht : H t = some (.tup [.int p.1, .int p.2]))
    (h : te (((wipe σ vs).set i (some (.int p.1))).set j (some (.int p.2))) H fun y H4 => Q (some y) H4) (hw : wipe (((wipe σ vs).set i (some (.int p.1))).set j (some (.int p.2))) vs = wipe σ vs := by rfl) :
    CStep (gTup K 2 (gCons (gName i) (gCons (gName j) gNil))) tYes te vs σ (.ref t) H Q := by
  refine ⟨t, _, rfl, SqT.of ht, rfl, _, _, rfl, _, _, rfl, rfl, hw, ?_⟩
  show if true = true then (te (((wipe σ vs).set i (some (.int p.1))).set j (some (.int p.2))) H fun y H4 => Q (some y) H4) else Q none H
  exact iteT h
def spWhole : Sp := fun vs H Q _ => ∃ i : Int, vs = [.int i] ∧ Q (.bl true) H
end CF

namespace CF
open PySem L2 PyProof.Rows
/-! ### a floor is made -/
structure MkF (P : Program) (w : World) (K : PySem.W.Frag) (mg : Str → Option Value) (base : Heap) (C CN : Addr) : Prop where
  ex : ∃ (f : Addr) (fd : FuncData), Mk K C f ∧ FnOk P w K mg base (L2N.CX P w) 2 f fd ["self", "places", "doors"] (spInit C CN) ∧ Binds K fd ["self", "places", "doors"] []
section
variable {X : Cx} {C CN : Addr} {j : Nat} {p pos : Pos} {e1 e2 : Expr} {ta : TA}
theorem pe_mkF (M : MkF X.prog X.w X.K X.mg X.base C CN) (g : X.mg "Floor" = some (.ref C)) (hr : Room j X.A) (hg : Gl X "Floor") (ha : PA X (e1 :: [e2]) ta) (hk : 3 ≤ j := by decide)
    (he : starEach (e1 :: [e2]) X.env = (false, eval e1 X.env) :: starEach [e2] X.env := by rfl) (hpl : (backTo pos (starEach [e2] X.env)).any (·.1) = false := by rfl) :
    PE X (.Call (.Name "Floor" p) (e1 :: [e2]) [] pos) (tMake C (spInit C CN) [] E0 ta) := by
  obtain ⟨f, fd, m, F, b⟩ := M.ex
  exact pe_make m F (hr.mono hk) hg g b .nil passN ha (by decide) he hpl
end
theorem mk_floor {G H F H1 : Hp} {n : Nat} {ds : List (Int × Int)} {v : V} {C CN x dx : Addr} {Q : VK} {E : XK} (g : Grow G H F H1) (hds : PairL F v ds) (fl : floorB (n : Int) ds = true) (hl : ds.length ≤ 1000) (hx : H1 x = none) (hdx : H1 dx = none) (_ : dx ≠ x)
    (q : ∀ F' H', Grow G H F' H' → Same F F' → FlrAt C F' (.ref x) n ds → Q .non H') : spInit C CN (.ref x :: ([nv n, v] ++ [])) (upd (upd H1 dx (.own x)) x (.ins C dx [])) Q E := by
  have s1 : Same H1 (upd (upd H1 dx (.own x)) x (.ins C dx [])) := fun b o e => by
    rw [upd_ne (ne_of_none e hx), upd_ne (ne_of_none e hdx)]
    exact e
  have hFx : F x = none := g.sub.free hx
  refine ⟨F, x, dx, (n : Int), v, ds, rfl, g.sub.trans s1, hFx, upd_same, hds, hl, fun _ d ys H' hd kp hx' hd' hp => ?_, fun z => by rw [fl] at z; cases z⟩
  have hd1 : H1 d = none := s1.free hd
  have hFd : F d = none := g.sub.free hd1
  have ndx : d ≠ x := fun e => by
    rw [e] at hd
    rw [upd_same] at hd
    cases hd
  have s2 : Same F (upd (upd F d (.lst ys)) x (.ins C dx (flds (n : Int) d))) := (same_new _ hFd).trans (same_new _ (by rw [upd_ne ndx.symm]; exact hFx))
  refine q (upd (upd F d (.lst ys)) x (.ins C dx (flds (n : Int) d))) H' ⟨g.ss.trans s2, fun b o e => ?_, fun b o e => ?_, fun b o e => ?_⟩ s2 ⟨x, dx, d, rfl, upd_same, d, ys, rfl, by rw [upd_ne ndx]; exact upd_same, paired_ext (fun _ _ h => h.ext s2) hp⟩
  · by_cases c : b = x
    · subst c
      rw [upd_same] at e
      rw [← e]
      exact hx'
    · rw [upd_ne c] at e
      by_cases c2 : b = d
      · subst c2
        rw [upd_same] at e
        rw [← e]
        exact hd'
      · rw [upd_ne c2] at e
        exact kp b o (s1 _ _ (g.sub _ _ e)) c
  · have e1 := g.keep _ _ e
    exact kp b o (s1 _ _ e1) (ne_of_none e1 hx)
  · by_cases c : b = x
    · subst c
      exact .inr (.inl (g.keep.free hx))
    · rw [upd_ne c] at e
      by_cases c2 : b = d
      · subst c2
        exact .inr (.inl (g.keep.free hd1))
      · rw [upd_ne c2] at e
        exact g.new b o e
/-! ### lists of whole numbers as data -/
def dIs (is : List Int) : List PyData := is.map PyData.int
theorem dIs_eqv : ∀ is js : List Int, PyData.eqvAll (dIs is) (dIs js) = decide (is = js)
  | [], [] => by simp [dIs, PyData.eqvAll]
  | [], j :: js => by simp [dIs, PyData.eqvAll]
  | i :: is, [] => by simp [dIs, PyData.eqvAll]
  | i :: is, j :: js => by
    have ih := dIs_eqv is js
    unfold dIs at ih ⊢
    simp [PyData.eqvAll, PyData.eqv, ih, Bool.beq_eq_decide_eq, Bool.decide_and]
theorem dIs_lay : ∀ is : List Int, PyData.canLayAll0 (dIs is) = true
  | [] => rfl
  | i :: is => by
    have ih := dIs_lay is
    unfold dIs at ih ⊢
    rw [List.map_cons, PyData.canLayAll0, ih]
    simp [PyData.canLay0]
theorem dIs_depth : ∀ is : List Int, PyData.depthAll (dIs is) = 0
  | [] => by simp [dIs, PyData.depthAll]
  | i :: is => by
    have ih := dIs_depth is
    unfold dIs at ih ⊢
    rw [List.map_cons, PyData.depthAll, ih]
    simp [PyData.depth]
theorem dIs_shaped (is : List Int) : SeqAt.shaped (.list (dIs is)) = true := by
  have h1 := dIs_lay is
  have h2 := dIs_depth is
  simp only [SeqAt.shaped, PyData.canLay0, PyData.depth, h1, h2, Bool.true_and]
  exact decide_eq_true (by omega)
theorem dIs_dpAll {K : PySem.W.Frag} {H : Hp} : ∀ is : List Int, DpAll K H (intsV is) (dIs is)
  | [] => .nil
  | i :: is => .cons (.int i) (dIs_dpAll is)
theorem dIs_dp {K : PySem.W.Frag} {H : Hp} {a : Addr} {is : List Int} (h : SqL K H a (intsV is)) : Dp K H (.ref a) (.list (dIs is)) := .lst h (dIs_dpAll is)
theorem dIs_eqL (is js : List Int) : PyData.eqv (.list (dIs is)) (.list (dIs js)) = decide (is = js) := by
  rw [← dIs_eqv]
  simp [PyData.eqv]
/-- a law's promise -/
def spLaw (K : PySem.W.Frag) : Sp := fun vs H Q _ => ∃ (a : Addr) (ns : List Int), vs = [.ref a] ∧ SqL K H a (ns.map V.int) ∧ ns.length ≤ 63 ∧ ∀ H', Q (.bl true) H'
/-- the laps end within forty -/
def Forty (n : Nat) (ds : List (Int × Int)) (c : Nat) : Prop := moreF (arF n ds) (lapN n ds c 40) (ksF (arF n ds) (cssF n c)) = []
theorem standB_of {n : Nat} {cs : List Nat} {r : Nat} (h1 : 1 ≤ cs.length) (h2 : cs.length ≤ 2) (h3 : ∀ p ∈ cs, p < n) (h4 : r < n) : standB n (asI cs) r = true := by
  unfold standB
  rw [asI_len, decide_eq_true h1, decide_eq_true h2, Bool.true_and, Bool.true_and, List.all_eq_true]
  intro i hi
  rcases List.mem_append.mp hi with h | h
  · unfold asI at h
    obtain ⟨p, hp, rfl⟩ := List.mem_map.mp h
    have := h3 p hp
    rw [decide_eq_true (by omega : (0 : Int) ≤ (p : Int)), decide_eq_true (by omega : (p : Int) < (n : Int))]
    rfl
  · rw [List.mem_singleton] at h
    subst h
    rw [decide_eq_true (by omega : (0 : Int) ≤ (r : Int)), decide_eq_true (by omega : (r : Int) < (n : Int))]
    rfl
end CF

namespace CF
open PySem L2 PyProof.Rows
/-! ### the laps end within forty -/
theorem forty_few {n : Nat} {ds : List (Int × Int)} {c : Nat} (h : unr n (cssF n c) (L0F (cssF n c)) ≤ 40) : Forty n ds c := by
  by_cases hall : ∀ s, s < 41 → moreF (arF n ds) (lapN n ds c s) (ksF (arF n ds) (cssF n c)) ≠ []
  · have := lap_unr 41 hall
    omega
  · obtain ⟨s, hs⟩ := Classical.not_forall.mp hall
    obtain ⟨hs1, hs2⟩ := Classical.not_imp.mp hs
    have hs2 := Classical.not_not.mp hs2
    have e := lap_stay hs2 (40 - s)
    rw [show s + (40 - s) = 40 by omega] at e
    unfold Forty
    rw [e]
    exact hs2
theorem unr_one {n : Nat} (h : n ≤ 6) : unr n (cssF n 1) (L0F (cssF n 1)) ≤ 40 := by
  have : n = 0 ∨ n = 1 ∨ n = 2 ∨ n = 3 ∨ n = 4 ∨ n = 5 ∨ n = 6 := by omega
  rcases this with rfl | rfl | rfl | rfl | rfl | rfl | rfl <;> decide +kernel
theorem unr_two {n : Nat} (h : n ≤ 4) : unr n (cssF n 2) (L0F (cssF n 2)) ≤ 40 := by
  have : n = 0 ∨ n = 1 ∨ n = 2 ∨ n = 3 ∨ n = 4 := by omega
  rcases this with rfl | rfl | rfl | rfl | rfl <;> decide +kernel
/-! a rank once had stays -/
theorem moreF_mem {ar : List (List Nat)} {L : Rk} {css : List (List Nat)} {g : List Nat} {r : Nat} : (g, r) ∈ moreF ar L (ksF ar css) ↔ g ∈ css ∧ r < ar.length ∧ L g r = none ∧ winB ar L (glF ar g) r = true := by
  rw [moreF_filter, List.mem_filter, List.mem_flatMap]
  constructor
  · rintro ⟨⟨cs, hcs, h1⟩, h2⟩
    obtain ⟨r', hr', e⟩ := List.mem_map.mp h1
    injection e with e1 e2
    subst e1 e2
    simp only [Bool.and_eq_true, Option.isNone_iff_eq_none] at h2
    exact ⟨hcs, List.mem_range.mp hr', h2.1, h2.2⟩
  · rintro ⟨h1, h2, h3, h4⟩
    refine ⟨⟨g, h1, List.mem_map.mpr ⟨r, List.mem_range.mpr h2, rfl⟩⟩, ?_⟩
    show ((L g r).isNone && winB ar L (glF ar g) r) = true
    rw [h3, h4]
    rfl
theorem lap_keep {n : Nat} {ds : List (Int × Int)} {c t : Nat} {g : List Nat} {r k : Nat} (h : lapN n ds c t g r = some k) : lapN n ds c (t + 1) g r = some k := by
  show upL (lapN n ds c t) (moreF (arF n ds) (lapN n ds c t) (ksF (arF n ds) (cssF n c))) (t + 1) g r = some k
  unfold upL
  rw [if_neg (fun z => by
    have := (moreF_mem.mp z).2.2.1
    rw [h] at this
    cases this), h]
theorem lap_keeps {n : Nat} {ds : List (Int × Int)} {c t : Nat} {g : List Nat} {r : Nat} (h : (lapN n ds c t g r).isSome = true) : (lapN n ds c (t + 1) g r).isSome = true := by
  obtain ⟨k, hk⟩ := Option.isSome_iff_exists.mp h
  rw [lap_keep hk]
  rfl
theorem lap_keepj {n : Nat} {ds : List (Int × Int)} {c t : Nat} {g : List Nat} {r k : Nat} (h : lapN n ds c t g r = some k) : ∀ j, lapN n ds c (t + j) g r = some k
  | 0 => h
  | j + 1 => lap_keep (lap_keepj h j)
/-- one goes there and wins -/
theorem lap_win {n : Nat} {ds : List (Int × Int)} {c t : Nat} {cs g : List Nat} {r : Nat} (hcs : cs ∈ cssF n c) (hr : r < n) (hg : g ∈ glF (arF n ds) cs) (hb : (behF ((arF n ds).getD r []) (lapN n ds c t) g r).isSome = true) : (lapN n ds c (t + 1) cs r).isSome = true := by
  cases hL : lapN n ds c t cs r with
  | some k => exact lap_keeps (by rw [hL]; rfl)
  | none =>
    show (upL (lapN n ds c t) (moreF (arF n ds) (lapN n ds c t) (ksF (arF n ds) (cssF n c))) (t + 1) cs r).isSome = true
    unfold upL
    rw [if_pos (moreF_mem.mpr ⟨hcs, by rw [arF_len]; exact hr, hL, List.any_eq_true.mpr ⟨g, hg, hb⟩⟩)]
    rfl
theorem arF_get {n : Nat} {ds : List (Int × Int)} {p : Nat} (hp : p < n) : (arF n ds).getD p [] = nearF n ds p := by simp [arF, hp]
theorem nearF_mem {n : Nat} {ds : List (Int × Int)} {p q : Nat} : q ∈ nearF n ds p ↔ q < n ∧ joinsB ds p q = true := by
  unfold nearF
  rw [List.mem_filter, List.mem_range]
theorem joins_refl (ds : List (Int × Int)) (p : Int) : joinsB ds p p = true := by simp [joinsB]
theorem behF_in {nr : List Nat} {L : Rk} {g : List Nat} {r : Nat} (h : r ∈ g) : behF nr L g r = some 0 := by
  unfold behF
  rw [if_pos h]
theorem behF_all {nr : List Nat} {L : Rk} {g : List Nat} {r : Nat} (h : ∀ p ∈ nr, (L g p).isSome = true) : (behF nr L g r).isSome = true := by
  unfold behF
  split
  · rfl
  · obtain ⟨M, e, _⟩ := behAll L g nr 0 h
    rw [e]
    rfl
/-- where can two go -/
theorem glF_two {ar : List (List Nat)} {x y : Nat} {g : List Nat} : g ∈ glF ar [x, y] ↔ ∃ p ∈ ar.getD x [], ∃ q ∈ ar.getD y [], g = [p, q] := by
  unfold glF goF
  rw [List.map_cons, List.map_cons, List.map_nil, List.foldl_cons, List.foldl_cons, List.foldl_nil, goStep_mem]
  constructor
  · rintro ⟨s', h1, m, h2, rfl⟩
    obtain ⟨s0, h3, m0, h4, rfl⟩ := goStep_mem.mp h1
    rw [List.mem_singleton] at h3
    subst h3
    exact ⟨m0, h4, m, h2, rfl⟩
  · rintro ⟨p, hp, q, hq, rfl⟩
    exact ⟨[p], goStep_mem.mpr ⟨[], by simp, p, hp, rfl⟩, q, hq, rfl⟩
theorem glF_one {ar : List (List Nat)} {x : Nat} {g : List Nat} : g ∈ glF ar [x] ↔ ∃ p ∈ ar.getD x [], g = [p] := by
  unfold glF goF
  rw [List.map_cons, List.map_nil, List.foldl_cons, List.foldl_nil, goStep_mem]
  constructor
  · rintro ⟨s', h1, m, h2, rfl⟩
    rw [List.mem_singleton] at h1
    subst h1
    exact ⟨m, h2, rfl⟩
  · rintro ⟨p, hp, rfl⟩
    exact ⟨[], by simp, p, hp, rfl⟩
/-! what spreads comes everywhere -/
theorem spread {n : Nat} {ds : List (Int × Int)} (hv : ValP n ds) (hc : Conn n ds) (S : Nat → Nat → Bool) (mono : ∀ t x, S t x = true → S (t + 1) x = true)
    (step : ∀ t, ∀ d ∈ ds, (S t d.1.toNat = true → S (t + 1) d.2.toNat = true) ∧ (S t d.2.toNat = true → S (t + 1) d.1.toNat = true)) {a t0 : Nat} (ha : a < n) (h0 : S t0 a = true) : ∀ x, x < n → S (t0 + n) x = true := by
  have full : ∀ t, ((List.range n).filter (S t)).length = n → ∀ x, x < n → S t x = true := fun t e x hx => by
    have : (List.range n).filter (S t) = List.range n := List.filter_eq_self.mpr (by
      have := List.filter_sublist (l := List.range n) (p := S t)
      have := this.eq_of_length (by rw [e, List.length_range])
      exact List.filter_eq_self.mp this)
    exact List.filter_eq_self.mp this x (List.mem_range.mpr hx)
  have key : ∀ k, ((List.range n).filter (S (t0 + k))).length = n ∨ k + 1 ≤ ((List.range n).filter (S (t0 + k))).length := fun k => by
    induction k with
    | zero =>
      right
      have : a ∈ (List.range n).filter (S (t0 + 0)) := List.mem_filter.mpr ⟨List.mem_range.mpr ha, h0⟩
      exact List.length_pos_of_mem this
    | succ k ih =>
      have hs := filter_split (S (t0 + k + 1)) (S (t0 + k)) (List.range n)
      have e1 : (List.range n).filter (fun x => S (t0 + k + 1) x && S (t0 + k) x) = (List.range n).filter (S (t0 + k)) := List.filter_congr fun x _ => by
        cases e : S (t0 + k) x with
        | false => rw [Bool.and_false]
        | true => rw [mono _ _ e]; rfl
      rw [e1] at hs
      have hle := List.length_filter_le (S (t0 + k + 1)) (List.range n)
      rw [List.length_range] at hle
      rcases Nat.eq_zero_or_pos ((List.range n).filter fun x => S (t0 + k + 1) x && !S (t0 + k) x).length with z | z
      · left
        have hno : ∀ x, x < n → S (t0 + k + 1) x = true → S (t0 + k) x = true := fun x hx h => by
          cases e : S (t0 + k) x with
          | true => rfl
          | false =>
            have : x ∈ (List.range n).filter fun x => S (t0 + k + 1) x && !S (t0 + k) x := List.mem_filter.mpr ⟨List.mem_range.mpr hx, by rw [h, e]; rfl⟩
            have := List.length_pos_of_mem this
            omega
        have closed : ∀ d ∈ ds, (S (t0 + k) d.1.toNat = true ↔ S (t0 + k) d.2.toNat = true) := fun d hd => by
          obtain ⟨v1, v2, v3⟩ := hv d hd
          exact ⟨fun h => hno _ (by omega) ((step _ d hd).1 h), fun h => hno _ (by omega) ((step _ d hd).2 h)⟩
        have hak : ∀ j, S (t0 + j) a = true := fun j => by
          induction j with
          | zero => exact h0
          | succ j ih => exact mono _ _ ih
        have hall : ∀ x, x < n → S (t0 + k) x = true := fun x hx => by
          have := hc (fun z => S (t0 + k) z.toNat = true) closed (a : Int) (x : Int) (by omega) (by omega) (by omega) (by omega) (by show S (t0 + k) (a : Int).toNat = true; rw [Int.toNat_natCast]; exact hak k)
          have this : S (t0 + k) (x : Int).toNat = true := this
          rwa [Int.toNat_natCast] at this
        have : (List.range n).filter (S (t0 + (k + 1))) = List.range n := List.filter_eq_self.mpr fun x hx => mono _ _ (hall x (List.mem_range.mp hx))
        rw [this, List.length_range]
      · have : (List.range n).filter (S (t0 + (k + 1))) = (List.range n).filter (S (t0 + k + 1)) := rfl
        rw [this]
        omega
  rcases key n with h | h
  · exact full _ h
  · have hle := List.length_filter_le (S (t0 + n)) (List.range n)
    rw [List.length_range] at hle
    omega
/-! two places near to all -/
def Dom (n : Nat) (ds : List (Int × Int)) (a b : Nat) : Prop := a < n ∧ b < n ∧ ∀ r, r < n → joinsB ds (a : Int) (r : Int) = true ∨ joinsB ds (b : Int) (r : Int) = true
/-- all of the runner's places have a rank -/
def totB (n : Nat) (ds : List (Int × Int)) (t : Nat) (cs : List Nat) : Bool := (List.range n).all fun r => (lapN n ds cs.length t cs r).isSome
theorem css_two {n x y : Nat} (hx : x < n) (hy : y < n) : [x, y] ∈ cssF n 2 := cssF_mem.mpr ⟨rfl, fun p hp => by
  rcases List.mem_cons.mp hp with rfl | hp
  · exact hx
  · rw [List.mem_singleton] at hp
    rw [hp]
    exact hy⟩
theorem totB_mono {n : Nat} {ds : List (Int × Int)} {t : Nat} {cs : List Nat} (h : totB n ds t cs = true) : totB n ds (t + 1) cs = true := by
  unfold totB at h ⊢
  rw [List.all_eq_true] at h ⊢
  exact fun r hr => lap_keeps (h r hr)
theorem totB_step {n : Nat} {ds : List (Int × Int)} {t x y x' y' : Nat} (hx : x < n) (hy : y < n) (hx' : x' < n) (hy' : y' < n) (jx : joinsB ds x x' = true) (jy : joinsB ds y y' = true) (h : totB n ds t [x', y'] = true) : totB n ds (t + 1) [x, y] = true := by
  unfold totB at h ⊢
  rw [List.all_eq_true] at h ⊢
  intro r hr
  have hr := List.mem_range.mp hr
  refine lap_win (g := [x', y']) (css_two hx hy) hr (glF_two.mpr ⟨x', ?_, y', ?_, rfl⟩) (behF_all fun p hp => h p ?_)
  · rw [arF_get hx]
    exact nearF_mem.mpr ⟨hx', jx⟩
  · rw [arF_get hy]
    exact nearF_mem.mpr ⟨hy', jy⟩
  · rw [arF_get hr] at hp
    exact List.mem_range.mpr (nearF_mem.mp hp).1
theorem dom_tot {n : Nat} {ds : List (Int × Int)} {a b : Nat} (h : Dom n ds a b) : totB n ds 1 [a, b] = true := by
  obtain ⟨ha, hb, hd⟩ := h
  unfold totB
  rw [List.all_eq_true]
  intro r hr
  have hr := List.mem_range.mp hr
  rcases hd r hr with h | h
  · refine lap_win (g := [r, b]) (css_two ha hb) hr (glF_two.mpr ⟨r, ?_, b, ?_, rfl⟩) (by rw [behF_in (by simp)]; rfl)
    · rw [arF_get ha]
      exact nearF_mem.mpr ⟨hr, h⟩
    · rw [arF_get hb]
      exact nearF_mem.mpr ⟨hb, joins_refl _ _⟩
  · refine lap_win (g := [a, r]) (css_two ha hb) hr (glF_two.mpr ⟨a, ?_, r, ?_, rfl⟩) (by rw [behF_in (by simp)]; rfl)
    · rw [arF_get ha]
      exact nearF_mem.mpr ⟨ha, joins_refl _ _⟩
    · rw [arF_get hb]
      exact nearF_mem.mpr ⟨hr, h⟩
theorem joins_door {ds : List (Int × Int)} {d : Int × Int} (hd : d ∈ ds) (h : d.1 < d.2) : joinsB ds d.1 d.2 = true := by
  unfold joinsB mnI mxI
  rw [if_neg (by omega), if_pos (by omega : d.2 > d.1)]
  simp [hd]
theorem dom_all {n : Nat} {ds : List (Int × Int)} (hv : ValP n ds) (hc : Conn n ds) {a b : Nat} (h : Dom n ds a b) {x y : Nat} (hx : x < n) (hy : y < n) : totB n ds (1 + n + n) [x, y] = true := by
  obtain ⟨ha, hb, _⟩ := id h
  have door : ∀ d ∈ ds, d.1.toNat < n ∧ d.2.toNat < n ∧ joinsB ds (d.1.toNat : Int) (d.2.toNat : Int) = true := fun d hd => by
    obtain ⟨v1, v2, v3⟩ := hv d hd
    rw [show ((d.1.toNat : Nat) : Int) = d.1 by omega, show ((d.2.toNat : Nat) : Int) = d.2 by omega]
    exact ⟨by omega, by omega, joins_door hd v2⟩
  have h1 := spread hv hc (fun t x => totB n ds t [x, b]) (fun t x e => totB_mono e) (fun t d hd => by
    obtain ⟨d1, d2, d3⟩ := door d hd
    exact ⟨fun e => totB_step d2 hb d1 hb (by rw [joinsB_comm]; exact d3) (joins_refl _ _) e, fun e => totB_step d1 hb d2 hb d3 (joins_refl _ _) e⟩) ha (dom_tot h) x hx
  exact spread hv hc (fun t y => totB n ds t [x, y]) (fun t x e => totB_mono e) (fun t d hd => by
    obtain ⟨d1, d2, d3⟩ := door d hd
    exact ⟨fun e => totB_step hx d2 hx d1 (joins_refl _ _) (by rw [joinsB_comm]; exact d3) e, fun e => totB_step hx d1 hx d2 (joins_refl _ _) d3 e⟩) hb h1 y hy
/-- where two places are near to all, all standings of two have a rank -/
theorem dom_lap {n : Nat} {ds : List (Int × Int)} (hv : ValP n ds) (hc : Conn n ds) {a b : Nat} (h : Dom n ds a b) {cs : List Nat} {r : Nat} (hcs : cs ∈ cssF n 2) (hr : r < n) : (lapN n ds 2 (1 + n + n) cs r).isSome = true := by
  obtain ⟨hl, hm⟩ := cssF_mem.mp hcs
  match cs, hl with
  | [x, y], _ =>
    have := dom_all hv hc h (hm x (by simp)) (hm y (by simp))
    unfold totB at this
    rw [List.all_eq_true] at this
    exact this r (List.mem_range.mpr hr)
/-! five places at most -/
def mk5 (a b c d e f g h i j : Bool) : Nat → Nat → Bool
  | 0, 1 | 1, 0 => a
  | 0, 2 | 2, 0 => b
  | 0, 3 | 3, 0 => c
  | 0, 4 | 4, 0 => d
  | 1, 2 | 2, 1 => e
  | 1, 3 | 3, 1 => f
  | 1, 4 | 4, 1 => g
  | 2, 3 | 3, 2 => h
  | 2, 4 | 4, 2 => i
  | 3, 4 | 4, 3 => j
  | x, y => x == y
def domB (n : Nat) (J : Nat → Nat → Bool) : Bool := (List.range n).any fun a => (List.range n).any fun b => (List.range n).all fun r => J a r || J b r
def soloB (n : Nat) (J : Nat → Nat → Bool) : Bool := (List.range n).all fun x => (List.range n).any fun y => (x != y) && J x y
theorem dom5 : ∀ a b c d e f g h i j : Bool, (!soloB 5 (mk5 a b c d e f g h i j) || domB 5 (mk5 a b c d e f g h i j)) = true := by decide +kernel
theorem dom4 : ∀ a b c d e f g h i j : Bool, (!soloB 4 (mk5 a b c d e f g h i j) || domB 4 (mk5 a b c d e f g h i j)) = true := by decide +kernel
theorem dom3 : ∀ a b c d e f g h i j : Bool, (!soloB 3 (mk5 a b c d e f g h i j) || domB 3 (mk5 a b c d e f g h i j)) = true := by decide +kernel
theorem dom2 : ∀ a b c d e f g h i j : Bool, (!soloB 2 (mk5 a b c d e f g h i j) || domB 2 (mk5 a b c d e f g h i j)) = true := by decide +kernel
theorem mk5_eq {J : Nat → Nat → Bool} (hs : ∀ i j, J i j = J j i) (hr : ∀ i, J i i = true) {i j : Nat} (hi : i < 5) (hj : j < 5) :
    mk5 (J 0 1) (J 0 2) (J 0 3) (J 0 4) (J 1 2) (J 1 3) (J 1 4) (J 2 3) (J 2 4) (J 3 4) i j = J i j := by
  have h1 : i = 0 ∨ i = 1 ∨ i = 2 ∨ i = 3 ∨ i = 4 := by omega
  have h2 : j = 0 ∨ j = 1 ∨ j = 2 ∨ j = 3 ∨ j = 4 := by omega
  rcases h1 with rfl | rfl | rfl | rfl | rfl <;> rcases h2 with rfl | rfl | rfl | rfl | rfl <;> first | rfl | exact hs _ _ | (rw [hr]; rfl)
theorem solo_not {n : Nat} {ds : List (Int × Int)} (hv : ValP n ds) (hc : Conn n ds) (h2 : 2 ≤ n) {x : Nat} (hx : x < n) : ∃ y, y < n ∧ y ≠ x ∧ joinsB ds (x : Int) (y : Int) = true := by
  refine Classical.byContradiction fun hno => ?_
  have hno : ∀ y : Nat, y < n → y ≠ x → joinsB ds (x : Int) (y : Int) = true → False := fun y h1 h2 h3 => hno ⟨y, h1, h2, h3⟩
  obtain ⟨z, hz, hzx⟩ : ∃ z : Nat, z < n ∧ z ≠ x := by
    by_cases c : x = 0
    · exact ⟨1, by omega, by omega⟩
    · exact ⟨0, by omega, by omega⟩
  have := hc (fun i => i = (x : Int)) (fun d hd => by
    obtain ⟨v1, v2, v3⟩ := hv d hd
    have j := joins_door hd v2
    constructor
    · intro (e : d.1 = (x : Int))
      exfalso
      refine hno d.2.toNat (by omega) (by omega) ?_
      rw [show ((d.2.toNat : Nat) : Int) = d.2 by omega, ← e]
      exact j
    · intro (e : d.2 = (x : Int))
      exfalso
      refine hno d.1.toNat (by omega) (by omega) ?_
      rw [show ((d.1.toNat : Nat) : Int) = d.1 by omega, ← e, joinsB_comm]
      exact j) (x : Int) (z : Int) (by omega) (by omega) (by omega) (by omega) rfl
  have this : (z : Int) = (x : Int) := this
  omega
theorem dom_ex {n : Nat} {ds : List (Int × Int)} (h : FloOk n ds) (h5 : n ≤ 5) : ∃ a b, Dom n ds a b := by
  have h1 := h.n1
  by_cases c : n = 1
  · subst c
    exact ⟨0, 0, by omega, by omega, fun r hr => .inl (by rw [show r = 0 by omega]; exact joins_refl _ _)⟩
  let J : Nat → Nat → Bool := fun i j => joinsB ds (i : Int) (j : Int)
  have hs : ∀ i j, J i j = J j i := fun i j => joinsB_comm _ _ _
  have hr : ∀ i, J i i = true := fun i => joins_refl _ _
  have e : ∀ {i j : Nat}, i < 5 → j < 5 → mk5 (J 0 1) (J 0 2) (J 0 3) (J 0 4) (J 1 2) (J 1 3) (J 1 4) (J 2 3) (J 2 4) (J 3 4) i j = J i j := fun hi hj => mk5_eq hs hr hi hj
  have hsolo : soloB n (mk5 (J 0 1) (J 0 2) (J 0 3) (J 0 4) (J 1 2) (J 1 3) (J 1 4) (J 2 3) (J 2 4) (J 3 4)) = true := by
    unfold soloB
    rw [List.all_eq_true]
    intro x hx
    have hx := List.mem_range.mp hx
    obtain ⟨y, hy, hyx, hj⟩ := solo_not h.val h.con (by omega) hx
    refine List.any_eq_true.mpr ⟨y, List.mem_range.mpr hy, ?_⟩
    rw [e (by omega) (by omega)]
    show ((x != y) && joinsB ds (x : Int) (y : Int)) = true
    rw [hj, Bool.and_true]
    simpa using fun z => hyx z.symm
  have hdom : domB n (mk5 (J 0 1) (J 0 2) (J 0 3) (J 0 4) (J 1 2) (J 1 3) (J 1 4) (J 2 3) (J 2 4) (J 3 4)) = true := by
    have hn : n = 2 ∨ n = 3 ∨ n = 4 ∨ n = 5 := by omega
    rcases hn with rfl | rfl | rfl | rfl
    · have := dom2 (J 0 1) (J 0 2) (J 0 3) (J 0 4) (J 1 2) (J 1 3) (J 1 4) (J 2 3) (J 2 4) (J 3 4)
      rwa [hsolo] at this
    · have := dom3 (J 0 1) (J 0 2) (J 0 3) (J 0 4) (J 1 2) (J 1 3) (J 1 4) (J 2 3) (J 2 4) (J 3 4)
      rwa [hsolo] at this
    · have := dom4 (J 0 1) (J 0 2) (J 0 3) (J 0 4) (J 1 2) (J 1 3) (J 1 4) (J 2 3) (J 2 4) (J 3 4)
      rwa [hsolo] at this
    · have := dom5 (J 0 1) (J 0 2) (J 0 3) (J 0 4) (J 1 2) (J 1 3) (J 1 4) (J 2 3) (J 2 4) (J 3 4)
      rwa [hsolo] at this
  unfold domB at hdom
  obtain ⟨a, ha, h2⟩ := List.any_eq_true.mp hdom
  obtain ⟨b, hb, h3⟩ := List.any_eq_true.mp h2
  have ha := List.mem_range.mp ha
  have hb := List.mem_range.mp hb
  refine ⟨a, b, ha, hb, fun r hr' => ?_⟩
  have h4 := List.all_eq_true.mp h3 r (List.mem_range.mpr hr')
  rw [e (by omega) (by omega), e (by omega) (by omega), Bool.or_eq_true] at h4
  exact h4
/-- on up to five places two chasers always catch -/
theorem two_lap {n : Nat} {ds : List (Int × Int)} (h : FloOk n ds) (h5 : n ≤ 5) {cs : List Nat} {r : Nat} (hcs : cs ∈ cssF n 2) (hr : r < n) : (lapN n ds 2 (1 + n + n) cs r).isSome = true := by
  obtain ⟨a, b, hd⟩ := dom_ex h h5
  exact dom_lap h.val h.con hd hcs hr
theorem forty {n : Nat} {ds : List (Int × Int)} {c : Nat} (h : FloOk n ds) (hc : c = 1 ∨ (c = 2 ∧ n ≤ 5)) : Forty n ds c := by
  rcases hc with rfl | ⟨rfl, h5⟩
  · exact forty_few (unr_one h.n6)
  · have hno : moreF (arF n ds) (lapN n ds 2 (1 + n + n)) (ksF (arF n ds) (cssF n 2)) = [] := by
      cases e : moreF (arF n ds) (lapN n ds 2 (1 + n + n)) (ksF (arF n ds) (cssF n 2)) with
      | nil => rfl
      | cons s l =>
        exfalso
        obtain ⟨g, r⟩ := s
        have hm : (g, r) ∈ moreF (arF n ds) (lapN n ds 2 (1 + n + n)) (ksF (arF n ds) (cssF n 2)) := by rw [e]; exact List.mem_cons_self
        obtain ⟨h1, h2, h3, _⟩ := moreF_mem.mp hm
        rw [arF_len] at h2
        have := two_lap h h5 h1 h2
        rw [h3] at this
        cases this
    have e := lap_stay hno (40 - (1 + n + n))
    rw [show 1 + n + n + (40 - (1 + n + n)) = 40 by omega] at e
    unfold Forty
    rw [e]
    exact hno
end CF

namespace CF
open PySem L2 PyProof.Rows
/-! ### what ranks are: the first lap -/
section
variable {n : Nat} {ds : List (Int × Int)} {c : Nat}
theorem lap_first {cs : List Nat} {r : Nat} : ∀ {t k : Nat}, lapN n ds c t cs r = some k → k ≤ t ∧ (lapN n ds c k cs r).isSome = true ∧ ∀ s, s < k → lapN n ds c s cs r = none
  | 0, k, h => by
    have h0 : L0F (cssF n c) cs r = some k := h
    unfold L0F at h0
    split at h0
    · cases h0
      exact ⟨Nat.le_refl _, by rw [h]; rfl, fun s hs => absurd hs (Nat.not_lt_zero s)⟩
    · cases h0
  | t + 1, k, h => by
    cases e : lapN n ds c t cs r with
    | some j =>
      rw [lap_keep e] at h
      cases h
      obtain ⟨h1, h2, h3⟩ := lap_first e
      exact ⟨by omega, h2, h3⟩
    | none =>
      have h' : upL (lapN n ds c t) (moreF (arF n ds) (lapN n ds c t) (ksF (arF n ds) (cssF n c))) (t + 1) cs r = some k := h
      unfold upL at h'
      split at h'
      · cases h'
        refine ⟨Nat.le_refl _, by rw [h]; rfl, fun s hs => ?_⟩
        cases e2 : lapN n ds c s cs r with
        | none => rfl
        | some j =>
          have := lap_keepj e2 (t - s)
          rw [show s + (t - s) = t by omega, e] at this
          cases this
      · rw [e] at h'
        cases h'
theorem lap_some_le {cs : List Nat} {r t : Nat} (h : (lapN n ds c t cs r).isSome = true) {s : Nat} (hs : t ≤ s) : lapN n ds c s cs r = lapN n ds c t cs r := by
  obtain ⟨k, hk⟩ := Option.isSome_iff_exists.mp h
  have := lap_keepj hk (s - t)
  rw [show t + (s - t) = s by omega] at this
  rw [this, hk]
theorem ranks_stay (t : Nat) (ht : unr n (cssF n c) (L0F (cssF n c)) ≤ t) : lapN n ds c t = ranksF n ds c := by
  by_cases hall : ∀ s, s < unr n (cssF n c) (L0F (cssF n c)) + 1 → moreF (arF n ds) (lapN n ds c s) (ksF (arF n ds) (cssF n c)) ≠ []
  · have := lap_unr _ hall
    omega
  · obtain ⟨s, hs⟩ := Classical.not_forall.mp hall
    obtain ⟨hs1, hs2⟩ := Classical.not_imp.mp hs
    have hs2 := Classical.not_not.mp hs2
    unfold ranksF
    have e1 := lap_stay hs2 (t - s)
    have e2 := lap_stay hs2 (unr n (cssF n c) (L0F (cssF n c)) - s)
    rw [show s + (t - s) = t by omega] at e1
    rw [show s + (unr n (cssF n c) (L0F (cssF n c)) - s) = unr n (cssF n c) (L0F (cssF n c)) by omega] at e2
    rw [e1, e2]
theorem rk_of_lap {cs : List Nat} {r t : Nat} (h : (lapN n ds c t cs r).isSome = true) : ranksF n ds c cs r = lapN n ds c t cs r := by
  rw [← ranks_stay (n := n) (ds := ds) (c := c) (t + unr n (cssF n c) (L0F (cssF n c))) (by omega)]
  exact lap_some_le h (by omega)
theorem rk_iff {cs : List Nat} {r k : Nat} : ranksF n ds c cs r = some k ↔ (lapN n ds c k cs r).isSome = true ∧ ∀ s, s < k → lapN n ds c s cs r = none := by
  constructor
  · intro h
    obtain ⟨_, h2, h3⟩ := lap_first (show lapN n ds c (unr n (cssF n c) (L0F (cssF n c))) cs r = some k from h)
    exact ⟨h2, h3⟩
  · rintro ⟨h1, h2⟩
    obtain ⟨j, hj⟩ := Option.isSome_iff_exists.mp h1
    have e := rk_of_lap h1
    obtain ⟨h3, h4, _⟩ := lap_first hj
    have : j = k := by
      rcases Nat.lt_or_ge j k with h | h
      · have := h2 j h
        rw [this] at h4
        cases h4
      · omega
    rw [e, hj, this]
theorem rk_none {cs : List Nat} {r : Nat} : ranksF n ds c cs r = none ↔ ∀ t, lapN n ds c t cs r = none := by
  constructor
  · intro h t
    cases e : lapN n ds c t cs r with
    | none => rfl
    | some k =>
      have := rk_of_lap (t := t) (by rw [e]; rfl)
      rw [h, e] at this
      cases this
  · exact fun h => h _
/-- how a rank comes -/
theorem lap_iff {cs : List Nat} {r t : Nat} : (lapN n ds c (t + 1) cs r).isSome = true ↔ (lapN n ds c t cs r).isSome = true ∨ (cs ∈ cssF n c ∧ r < n ∧ ∃ g ∈ glF (arF n ds) cs, (behF (nearF n ds r) (lapN n ds c t) g r).isSome = true) := by
  constructor
  · intro h
    cases e : lapN n ds c t cs r with
    | some j => exact .inl rfl
    | none =>
      right
      have h' : (upL (lapN n ds c t) (moreF (arF n ds) (lapN n ds c t) (ksF (arF n ds) (cssF n c))) (t + 1) cs r).isSome = true := h
      unfold upL at h'
      split at h'
      · rename_i hm
        obtain ⟨h1, h2, _, h4⟩ := moreF_mem.mp hm
        rw [arF_len] at h2
        unfold winB at h4
        obtain ⟨g, hg, hb⟩ := List.any_eq_true.mp h4
        rw [arF_get h2] at hb
        exact ⟨h1, h2, g, hg, hb⟩
      · rw [e] at h'
        cases h'
  · rintro (h | ⟨h1, h2, g, hg, hb⟩)
    · exact lap_keeps h
    · exact lap_win h1 h2 hg (by rw [arF_get h2]; exact hb)
theorem behF_iff {nr : List Nat} {L : Rk} {g : List Nat} {r : Nat} : (behF nr L g r).isSome = true ↔ r ∈ g ∨ ∀ p ∈ nr, (L g p).isSome = true := by
  constructor
  · intro h
    by_cases c : r ∈ g
    · exact .inl c
    · right
      intro p hp
      cases e : L g p with
      | some k => rfl
      | none =>
        unfold behF at h
        rw [if_neg c, behSome L g nr 0 ⟨p, hp, e⟩] at h
        cases h
  · rintro (h | h)
    · rw [behF_in h]
      rfl
    · exact behF_all h
theorem lap_zero {cs : List Nat} {r : Nat} : (lapN n ds c 0 cs r).isSome = true ↔ cs ∈ cssF n c ∧ r ∈ cs := by
  show (L0F (cssF n c) cs r).isSome = true ↔ _
  unfold L0F
  split
  · exact ⟨fun _ => by assumption, fun _ => rfl⟩
  · exact Iff.intro (fun h => by cases h) (fun h => absurd h (by assumption))
theorem rk_zero {cs : List Nat} {r : Nat} (hcs : cs ∈ cssF n c) : ranksF n ds c cs r = some 0 ↔ r ∈ cs := by
  rw [rk_iff, lap_zero]
  exact Iff.intro (fun h => h.1.2) (fun h => ⟨⟨hcs, h⟩, fun s hs => absurd hs (Nat.not_lt_zero s)⟩)
end
/-! two chasers: the order, and each alone -/
section
variable {n : Nat} {ds : List (Int × Int)}
theorem css_swap {x y : Nat} (h : [x, y] ∈ cssF n 2) : [y, x] ∈ cssF n 2 := by
  obtain ⟨_, h⟩ := cssF_mem.mp h
  exact css_two (h y (by simp)) (h x (by simp))
theorem lap_swap : ∀ (t x y r : Nat), (lapN n ds 2 t [x, y] r).isSome = true → (lapN n ds 2 t [y, x] r).isSome = true
  | 0, x, y, r, h => by
    obtain ⟨h1, h2⟩ := lap_zero.mp h
    refine lap_zero.mpr ⟨css_swap h1, ?_⟩
    simp only [List.mem_cons, List.not_mem_nil, or_false] at h2 ⊢
    exact h2.symm
  | t + 1, x, y, r, h => by
    rcases lap_iff.mp h with h | ⟨h1, h2, g, hg, hb⟩
    · exact lap_keeps (lap_swap t x y r h)
    · obtain ⟨p, hp, q, hq, rfl⟩ := glF_two.mp hg
      refine lap_iff.mpr (.inr ⟨css_swap h1, h2, [q, p], glF_two.mpr ⟨q, hq, p, hp, rfl⟩, behF_iff.mpr ?_⟩)
      rcases behF_iff.mp hb with h | h
      · left
        simp only [List.mem_cons, List.not_mem_nil, or_false] at h ⊢
        exact h.symm
      · exact .inr fun z hz => lap_swap t p q z (h z hz)
theorem rk_swap (x y r : Nat) : ranksF n ds 2 [x, y] r = ranksF n ds 2 [y, x] r := by
  have key : ∀ x y k, ranksF n ds 2 [x, y] r = some k → ranksF n ds 2 [y, x] r = some k := fun x y k h => by
    obtain ⟨h1, h2⟩ := rk_iff.mp h
    refine rk_iff.mpr ⟨lap_swap _ _ _ _ h1, fun s hs => ?_⟩
    cases e : lapN n ds 2 s [y, x] r with
    | none => rfl
    | some j =>
      have := lap_swap s y x r (by rw [e]; rfl)
      rw [h2 s hs] at this
      cases this
  cases e : ranksF n ds 2 [x, y] r with
  | some k => rw [key x y k e]
  | none =>
    cases e2 : ranksF n ds 2 [y, x] r with
    | none => rfl
    | some k =>
      have := key y x k e2
      rw [e] at this
      cases this
theorem lap_alone : ∀ (t x y r : Nat), y < n → (lapN n ds 1 t [x] r).isSome = true → (lapN n ds 2 t [x, y] r).isSome = true
  | 0, x, y, r, hy, h => by
    obtain ⟨h1, h2⟩ := lap_zero.mp h
    obtain ⟨_, h3⟩ := cssF_mem.mp h1
    exact lap_zero.mpr ⟨css_two (h3 x (by simp)) hy, List.mem_cons.mpr (.inl (by simpa using h2))⟩
  | t + 1, x, y, r, hy, h => by
    rcases lap_iff.mp h with h | ⟨h1, h2, g, hg, hb⟩
    · exact lap_keeps (lap_alone t x y r hy h)
    · obtain ⟨p, hp, rfl⟩ := glF_one.mp hg
      obtain ⟨_, h3⟩ := cssF_mem.mp h1
      have hx := h3 x (by simp)
      refine lap_iff.mpr (.inr ⟨css_two hx hy, h2, [p, y], glF_two.mpr ⟨p, hp, y, ?_, rfl⟩, behF_iff.mpr ?_⟩)
      · rw [arF_get hy]
        exact nearF_mem.mpr ⟨hy, joins_refl _ _⟩
      · rcases behF_iff.mp hb with h | h
        · exact .inl (List.mem_cons.mpr (.inl (by simpa using h)))
        · exact .inr fun z hz => lap_alone t p y z hy (h z hz)
theorem rk_alone {x y r k : Nat} (hy : y < n) (h : ranksF n ds 1 [x] r = some k) : ∃ j, ranksF n ds 2 [x, y] r = some j ∧ j ≤ k := by
  have h1 := lap_alone k x y r hy (rk_iff.mp h).1
  obtain ⟨j, hj⟩ := Option.isSome_iff_exists.mp h1
  exact ⟨j, by rw [rk_of_lap h1, hj], (lap_first hj).1⟩
theorem rk_two {cs : List Nat} {r : Nat} (h : FloOk n ds) (h5 : n ≤ 5) (hcs : cs ∈ cssF n 2) (hr : r < n) : ∃ k, ranksF n ds 2 cs r = some k := by
  have := two_lap h h5 hcs hr
  obtain ⟨k, hk⟩ := Option.isSome_iff_exists.mp this
  exact ⟨k, by rw [rk_of_lap this, hk]⟩
end
end CF

namespace CF
open PySem L2 PyProof.Rows
/-! ### plans: promises -/
def spFree (C CS CC : Addr) : Sp := fun vs H Q E => ∃ (F : Hp) (v : V) (n : Nat) (ds : List (Int × Int)) (a : Addr) (is : List Int) (r : Int), vs = [v, .ref a, .int r] ∧ Same F H ∧ FlrAt C F v n ds ∧ F a = some (.lst (intsV is)) ∧ is.length ≤ 1000 ∧
  (standB n is r = true → r ∉ is → ∀ H', Grow F H F H' → Q .non H') ∧ (standB n is r = false → ∀ H', Grow F H F H' → E (.ref CS) none H') ∧ (standB n is r = true → r ∈ is → ∀ H', Grow F H F H' → E (.ref CC) none H')
/-- the flight: the first place without a rank, else the first of the greatest -/
def flF (L : Nat → Option Nat) : List Nat → Option (Nat × Nat) → Nat
  | [], some (_, p) => p
  | [], none => 0
  | p :: ps, acc => match L p with
    | none => p
    | some h => match acc with
      | none => flF L ps (some (h, p))
      | some (b, q) => if h > b then flF L ps (some (h, p)) else flF L ps (some (b, q))
def spFlight (C CS CC : Addr) : Sp := fun vs H Q E => ∃ (F : Hp) (v : V) (n : Nat) (ds : List (Int × Int)) (a : Addr) (is : List Int) (r : Int), vs = [v, .ref a, .int r] ∧ Same F H ∧ FlrAt C F v n ds ∧ n ≤ 6 ∧ F a = some (.lst (intsV is)) ∧ is.length ≤ 1000 ∧
  (∀ (cs : List Nat) (k : Nat), is = asI cs → r = (k : Int) → standB n is r = true → k ∉ cs → ∀ F' H', Grow F H F' H' → Q (nv (flF (ranksF n ds cs.length cs) (nearF n ds k) none)) H') ∧
  (standB n is r = false → ∀ H', Grow F H F H' → E (.ref CS) none H') ∧ (standB n is r = true → r ∈ is → ∀ H', Grow F H F H' → E (.ref CC) none H')
/-- the chasers' next places -/
def chB (n : Nat) (ds : List (Int × Int)) (cs : List Nat) (k h : Nat) (g : List Nat) : Bool := decide (opN (behF (nearF n ds k) (ranksF n ds cs.length) g k) = V.int ((h : Int) - 1))
def chF (n : Nat) (ds : List (Int × Int)) (cs : List Nat) (k h : Nat) : List Nat := ((glF (arF n ds) cs).find? (chB n ds cs k h)).getD cs
def spChase (C CS CC CR : Addr) : Sp := fun vs H Q E => ∃ (F : Hp) (v : V) (n : Nat) (ds : List (Int × Int)) (a : Addr) (is : List Int) (r : Int), vs = [v, .ref a, .int r] ∧ Same F H ∧ FlrAt C F v n ds ∧ n ≤ 6 ∧ F a = some (.lst (intsV is)) ∧ is.length ≤ 1000 ∧
  (∀ (cs : List Nat) (k h : Nat), is = asI cs → r = (k : Int) → standB n is r = true → k ∉ cs → ranksF n ds cs.length cs k = some h → ∀ F' H' b, Grow F H F' H' → F' b = none → H' b = some (.lst ((chF n ds cs k h).map nv)) → H b = none → Q (.ref b) H') ∧
  (standB n is r = false → ∀ H', Grow F H F H' → E (.ref CS) none H') ∧ (standB n is r = true → r ∈ is → ∀ H', Grow F H F H' → E (.ref CC) none H') ∧
  (∀ (cs : List Nat) (k : Nat), is = asI cs → r = (k : Int) → standB n is r = true → k ∉ cs → ranksF n ds cs.length cs k = none → ∀ F' H', Grow F H F' H' → E (.ref CR) none H')
end CF
namespace CF
open PySem L2 PyProof.Rows
/-! ### flight -/
theorem rk_flee {n : Nat} {ds : List (Int × Int)} {c : Nat} {cs : List Nat} {r : Nat} (h : ranksF n ds c cs r = none) (hcs : cs ∈ cssF n c) (hr : r < n) {g : List Nat} (hg : g ∈ glF (arF n ds) cs) : r ∉ g ∧ ∃ p ∈ nearF n ds r, ranksF n ds c g p = none := by
  have hno := rk_none.mp h
  have key : ∀ t, ¬ ((behF (nearF n ds r) (lapN n ds c t) g r).isSome = true) := fun t hb => by
    have := lap_iff.mpr (.inr ⟨hcs, hr, g, hg, hb⟩)
    rw [hno] at this
    cases this
  refine ⟨fun z => key 0 (behF_iff.mpr (.inl z)), Classical.byContradiction fun hall => ?_⟩
  refine key (unr n (cssF n c) (L0F (cssF n c))) (behF_iff.mpr (.inr fun p hp => ?_))
  cases e : lapN n ds c (unr n (cssF n c) (L0F (cssF n c))) g p with
  | some k => rfl
  | none => exact absurd ⟨p, hp, e⟩ hall
theorem flF_none {L : Nat → Option Nat} : ∀ (l : List Nat) (acc : Option (Nat × Nat)), (∃ p ∈ l, L p = none) → flF L l acc ∈ l ∧ L (flF L l acc) = none
  | [], _, ⟨p, hp, _⟩ => by cases hp
  | p :: l, acc, ⟨q, hq, h⟩ => by
    cases e : L p with
    | none =>
      have e2 : flF L (p :: l) acc = p := by
        show (match L p with | none => p | some h => _) = p
        rw [e]
      rw [e2]
      exact ⟨List.mem_cons_self, e⟩
    | some k =>
      have hq' : q ∈ l := by
        rcases List.mem_cons.mp hq with rfl | hq
        · rw [h] at e
          cases e
        · exact hq
      have e2 : ∃ acc', flF L (p :: l) acc = flF L l acc' := by
        cases acc with
        | none =>
          refine ⟨some (k, p), ?_⟩
          show (match L p with | none => p | some h => _) = _
          rw [e]
        | some bq =>
          obtain ⟨b, q2⟩ := bq
          by_cases c : k > b
          · refine ⟨some (k, p), ?_⟩
            show (match L p with | none => p | some h => _) = _
            rw [e]
            show (if k > b then _ else _) = _
            rw [if_pos c]
          · refine ⟨some (b, q2), ?_⟩
            show (match L p with | none => p | some h => _) = _
            rw [e]
            show (if k > b then _ else _) = _
            rw [if_neg c]
      obtain ⟨acc', e2⟩ := e2
      rw [e2]
      obtain ⟨h1, h2⟩ := flF_none l acc' ⟨q, hq', h⟩
      exact ⟨List.mem_cons_of_mem _ h1, h2⟩
theorem css_one {n x : Nat} (hx : x < n) : [x] ∈ cssF n 1 := cssF_mem.mpr ⟨rfl, fun p hp => by
  rw [List.mem_singleton] at hp
  rw [hp]
  exact hx⟩
/-- one chaser goes, the runner flees -/
theorem flee_one {n : Nat} {ds : List (Int × Int)} {x y r : Nat} (hx : x < n) (hr : r < n) (h : ranksF n ds 1 [x] r = none) (hy : y ∈ nearF n ds x) :
    r ≠ y ∧ flF (ranksF n ds 1 [y]) (nearF n ds r) none ∈ nearF n ds r ∧ flF (ranksF n ds 1 [y]) (nearF n ds r) none ≠ y ∧ ranksF n ds 1 [y] (flF (ranksF n ds 1 [y]) (nearF n ds r) none) = none := by
  obtain ⟨h1, h2⟩ := rk_flee h (css_one hx) hr (g := [y]) (glF_one.mpr ⟨y, by rw [arF_get hx]; exact hy, rfl⟩)
  obtain ⟨h3, h4⟩ := flF_none (L := ranksF n ds 1 [y]) (nearF n ds r) none h2
  refine ⟨fun e => h1 (by rw [e]; simp), h3, fun e => ?_, h4⟩
  have := (rk_zero (n := n) (ds := ds) (c := 1) (cs := [y]) (r := y) (css_one (nearF_mem.mp hy).1)).mpr (by simp)
  rw [e, this] at h4
  cases h4
theorem ring_ok {m : Nat} {qs : List (Int × Int)} (h3 : 3 ≤ m) (h6 : m ≤ 6) (h1 : SrtP qs) (h2 : qs.Perm (ringP m)) : FloOk m qs :=
  FloOk.of (by omega) h6 h1 h2 (ring_nodup h3) (ring_val h3) ring_tree.conn (by unfold ringP; simp; omega)
end CF

namespace CF
open PySem L2 PyProof.Rows
/-! ### folds: the mirror -/
/-- the places near p that are left are all near to q, another one -/
def covB (n : Nat) (ds : List (Int × Int)) (rest : List Nat) (p q : Nat) : Bool := decide (q ≠ p) && ((nearF n ds p).filter fun o => decide (o ∈ rest)).all fun o => joinsB ds (o : Int) (q : Int)
def foldP (n : Nat) (ds : List (Int × Int)) (rest : List Nat) : Option (Nat × Nat) := rest.findSome? fun p => (rest.find? (covB n ds rest p)).map fun q => (p, q)
def foldsN (n : Nat) (ds : List (Int × Int)) : Nat → List Nat → List (Nat × Nat) × List Nat
  | 0, rest => ([], rest)
  | k + 1, rest => match foldP n ds rest with
    | none => ([], rest)
    | some s => (s :: (foldsN n ds k (rest.erase s.1)).1, (foldsN n ds k (rest.erase s.1)).2)
def toP (s : Nat × Nat) : Int × Int := ((s.1 : Int), (s.2 : Int))
def foldsF (n : Nat) (ds : List (Int × Int)) : List (Nat × Nat) × List Nat := foldsN n ds n (List.range n)
theorem foldP_mem {n : Nat} {ds : List (Int × Int)} {rest : List Nat} {s : Nat × Nat} (h : foldP n ds rest = some s) : s.1 ∈ rest ∧ s.2 ∈ rest ∧ covB n ds rest s.1 s.2 = true := by
  obtain ⟨p, hp, e⟩ := List.exists_of_findSome?_eq_some h
  obtain ⟨q, hq, rfl⟩ := Option.map_eq_some_iff.mp e
  exact ⟨hp, List.mem_of_find?_eq_some hq, List.find?_some hq⟩
theorem foldsN_more {n : Nat} {ds : List (Int × Int)} : ∀ (k j : Nat) (rest : List Nat), rest.length ≤ k → k ≤ j → foldsN n ds j rest = foldsN n ds k rest
  | 0, j, rest, h, _ => by
    have : rest = [] := List.length_eq_zero_iff.mp (by omega)
    subst this
    cases j with
    | zero => rfl
    | succ j => rfl
  | k + 1, 0, rest, _, h => by omega
  | k + 1, j + 1, rest, h, hj => by
    unfold foldsN
    cases e : foldP n ds rest with
    | none => rfl
    | some s =>
      obtain ⟨h1, _⟩ := foldP_mem e
      have hl := List.length_erase_of_mem h1
      have := List.length_pos_of_mem h1
      simp only [foldsN_more k j (rest.erase s.1) (by omega) (by omega)]
/-- what is left: the others -/
theorem foldsN_left {n : Nat} {ds : List (Int × Int)} : ∀ (k : Nat) (rest : List Nat), rest.Nodup → (foldsN n ds k rest).2 = rest.filter fun p => decide (p ∉ (foldsN n ds k rest).1.map (·.1))
  | 0, rest, _ => by
    show rest = rest.filter _
    exact (List.filter_eq_self.mpr fun p _ => by simp [foldsN]).symm
  | k + 1, rest, h => by
    unfold foldsN
    cases e : foldP n ds rest with
    | none => exact (List.filter_eq_self.mpr fun p _ => by simp).symm
    | some s =>
      have ih := foldsN_left (n := n) (ds := ds) k (rest.erase s.1) (h.erase _)
      show (foldsN n ds k (rest.erase s.1)).2 = rest.filter fun p => decide (p ∉ (s :: (foldsN n ds k (rest.erase s.1)).1).map (·.1))
      rw [ih]
      generalize foldsN n ds k (rest.erase s.1) = z
      rw [h.erase_eq_filter, List.filter_filter]
      refine List.filter_congr fun p _ => ?_
      rw [List.map_cons]
      by_cases c : p = s.1
      · subst c
        rw [decide_eq_false (p := _ ∉ _ :: _) (fun z => z List.mem_cons_self)]
        simp
      · have e1 : (p != s.1) = true := by simpa using c
        rw [e1, Bool.and_true]
        refine decide_eq_decide.mpr ?_
        rw [List.mem_cons]
        exact Iff.intro (fun h => not_or.mpr ⟨c, h⟩) (fun h => (not_or.mp h).2)
def FoldR (F : Hp) (u : V) : Option (Nat × Nat) → Prop
  | none => u = .non
  | some s => PairT F u (toP s)
theorem FoldR.ext {F F' : Hp} {u : V} {o : Option (Nat × Nat)} (e : Same F F') (h : FoldR F u o) : FoldR F' u o := by
  cases o with
  | none => exact h
  | some s => exact PairT.ext e h
def spFoldOf (C : Addr) : Sp := fun vs H Q _ => ∃ (F : Hp) (v : V) (n : Nat) (ds : List (Int × Int)) (l : Addr) (rest : List Nat), vs = [v, .ref l] ∧ Same F H ∧ FlrAt C F v n ds ∧ n ≤ 6 ∧ H l = some (.lst (rest.map nv)) ∧ rest.length ≤ 100 ∧ (∀ p ∈ rest, p < n) ∧
  ∀ F' H' u, Grow F H F' H' → FoldR F' u (foldP n ds rest) → Q u H'
def spFolds (C : Addr) : Sp := fun vs H Q _ => ∃ (F : Hp) (v : V) (n : Nat) (ds : List (Int × Int)), vs = [v] ∧ Same F H ∧ FlrAt C F v n ds ∧ n ≤ 6 ∧
  ∀ F' H' b ys, Grow F H F' H' → F' b = none → H' b = some (.lst ys) → Paired (PairT F') ys ((foldsF n ds).1.map toP) → H b = none → Q (.ref b) H'
def spLeft (C : Addr) : Sp := fun vs H Q _ => ∃ (F : Hp) (v : V) (n : Nat) (ds : List (Int × Int)), vs = [v] ∧ Same F H ∧ FlrAt C F v n ds ∧ n ≤ 6 ∧
  ∀ F' H' b, Grow F H F' H' → F' b = none → H' b = some (.lst ((foldsF n ds).2.map nv)) → H b = none → Q (.ref b) H'
/-! the law's own -/
def spOnto : Sp := fun vs H Q _ => ∃ (F : Hp) (n : Nat) (v : V) (ds : List (Int × Int)) (l : Addr) (rest : List Nat) (p : Nat), vs = [nv n, v, .ref l, nv p] ∧ Same F H ∧ PairL F v ds ∧ n ≤ 6 ∧ H l = some (.lst (rest.map nv)) ∧ rest.length ≤ 100 ∧ (∀ p ∈ rest, p < n) ∧
  ∀ F' H' u, Grow F H F' H' → NatL F' u (rest.filter (covB n ds rest p)) → Q u H'
def spLFolds : Sp := fun vs H Q _ => ∃ (F : Hp) (n : Nat) (v : V) (ds : List (Int × Int)), vs = [nv n, v] ∧ Same F H ∧ PairL F v ds ∧ n ≤ 6 ∧
  ∀ F' H' t l1 l2, Grow F H F' H' → F' t = some (.tup [l1, l2]) → PairL F' l1 ((foldsF n ds).1.map toP) → NatL F' l2 (foldsF n ds).2 → Q (.ref t) H'
def spLike : Sp := fun vs H Q _ => ∃ (F : Hp) (a b : Addr) (ks : List Nat), vs = [.ref a, .ref b] ∧ Same F H ∧ H a = some (.lst (ks.map nv)) ∧ H b = some (.lst (ks.map nv)) ∧ ks.length ≤ 1000 ∧ ∀ F' H', Grow F H F' H' → Q (.bl true) H'
/-! ### finding -/
theorem findSome_at {α β : Type} {f : α → Option β} : ∀ {l : List α} {i : Nat} {x : α} {y : β}, l[i]? = some x → f x = some y → (∀ j z, j < i → l[j]? = some z → f z = none) → l.findSome? f = some y
  | [], i, x, y, h, _, _ => by simp at h
  | a :: l, 0, x, y, h, hf, _ => by
    simp at h
    subst h
    rw [List.findSome?_cons, hf]
  | a :: l, i + 1, x, y, h, hf, hn => by
    have h0 := hn 0 a (Nat.succ_pos i) rfl
    rw [List.findSome?_cons, h0]
    exact findSome_at (by simpa using h) hf fun j z hj hz => hn (j + 1) z (by omega) (by simpa using hz)
theorem find_at {α : Type} {p : α → Bool} : ∀ {l : List α} {i : Nat} {x : α}, l[i]? = some x → p x = true → (∀ j z, j < i → l[j]? = some z → p z = false) → l.find? p = some x
  | [], i, x, h, _, _ => by simp at h
  | a :: l, 0, x, h, hf, _ => by
    simp at h
    subst h
    rw [List.find?_cons, hf]
  | a :: l, i + 1, x, h, hf, hn => by
    have h0 := hn 0 a (Nat.succ_pos i) rfl
    rw [List.find?_cons, h0]
    exact find_at (by simpa using h) hf fun j z hj hz => hn (j + 1) z (by omega) (by simpa using hz)
theorem find_no {α : Type} {p : α → Bool} {l : List α} (h : ∀ (j : Nat) z, l[j]? = some z → p z = false) : l.find? p = none := by
  rw [List.find?_eq_none]
  intro x hx
  obtain ⟨j, hj, e⟩ := List.mem_iff_getElem.mp hx
  rw [h j x (by rw [List.getElem?_eq_getElem hj, e])]
  decide
theorem findSome_no {α β : Type} {f : α → Option β} {l : List α} (h : ∀ (j : Nat) z, l[j]? = some z → f z = none) : l.findSome? f = none := by
  rw [List.findSome?_eq_none_iff]
  intro x hx
  obtain ⟨j, hj, e⟩ := List.mem_iff_getElem.mp hx
  exact h j x (by rw [List.getElem?_eq_getElem hj, e])
theorem made_bind {α β : Type} (f : β → Option α) (l : List β) : made (fun (i : Nat) => (l[i]?).bind f) l.length = l.filterMap f := by
  have h := made_none (l.map f) l.length (by rw [List.length_map])
  rw [List.filterMap_map] at h
  have e : (fun (i : Nat) => ((l.map f)[i]?).bind id) = fun (i : Nat) => (l[i]?).bind f := by
    funext i
    rw [List.getElem?_map]
    cases l[i]? <;> rfl
  rw [e] at h
  exact h
theorem filterMap_if {α : Type} (q : α → Bool) : ∀ l : List α, (l.filterMap fun o => if q o = true then some o else none) = l.filter q
  | [] => rfl
  | a :: l => by
    rw [List.filterMap_cons, List.filter_cons, filterMap_if q l]
    cases q a <;> rfl
/-- what remove does -/
theorem erase_at {p : Nat} : ∀ {l : List Nat}, p ∈ l → ∃ j, l[j]? = some p ∧ (∀ m, m < j → l[m]? ≠ some p) ∧ l.eraseIdx j = l.erase p
  | [], h => by cases h
  | a :: l, h => by
    by_cases c : a = p
    · subst c
      exact ⟨0, rfl, fun m hm => absurd hm (Nat.not_lt_zero m), by simp⟩
    · have hp : p ∈ l := by
        rcases List.mem_cons.mp h with e | h
        · exact absurd e.symm c
        · exact h
      obtain ⟨j, h1, h2, h3⟩ := erase_at hp
      refine ⟨j + 1, by simpa using h1, fun m hm => ?_, ?_⟩
      · cases m with
        | zero =>
          intro e
          simp at e
          exact c e
        | succ m =>
          intro e
          exact h2 m (by omega) (by simpa using e)
      · rw [List.eraseIdx_cons_succ, h3, List.erase_cons_tail (by simpa using c)]
theorem asI_get {l : List Nat} {j : Nat} {k : Nat} : (asI l)[j]? = some (k : Int) ↔ l[j]? = some k := by
  unfold asI
  rw [List.getElem?_map]
  cases l[j]? with
  | none => simp
  | some z =>
    show some (z : Int) = some (k : Int) ↔ some z = some k
    rw [Option.some.injEq, Option.some.injEq]
    omega
theorem asI_eraseIdx : ∀ (l : List Nat) (j : Nat), (asI l).eraseIdx j = asI (l.eraseIdx j)
  | [], _ => rfl
  | a :: l, 0 => rfl
  | a :: l, j + 1 => by
    have ih := asI_eraseIdx l j
    unfold asI at ih ⊢
    rw [List.map_cons, List.eraseIdx_cons_succ, List.eraseIdx_cons_succ, List.map_cons, ih]
/-- something falls out of the view -/
theorem Grow.drop {F0 H0 F H : Hp} {p : Addr} (g : Grow F0 H0 F H) (h0 : F0 p = none) : Grow F0 H0 (fun a => if a = p then none else F a) H := by
  refine ⟨fun b o e => ?_, fun b o e => ?_, g.keep, fun b o e => ?_⟩
  · rw [if_neg (ne_of_none e h0)]
    exact g.ss _ _ e
  · by_cases c : b = p
    · rw [if_pos c] at e
      cases e
    · rw [if_neg c] at e
      exact g.sub _ _ e
  · by_cases c : b = p
    · rw [if_pos c] at e
      cases e
    · rw [if_neg c] at e
      exact g.new _ _ e
theorem foldsN_len (n : Nat) (ds : List (Int × Int)) : ∀ (k : Nat) (rest : List Nat), (foldsN n ds k rest).1.length ≤ k
  | 0, _ => Nat.le_refl _
  | k + 1, rest => by
    unfold foldsN
    cases foldP n ds rest with
    | none => exact Nat.zero_le _
    | some s =>
      have := foldsN_len n ds k (rest.erase s.1)
      show (s :: _).length ≤ _
      rw [List.length_cons]
      omega
theorem len_zero_all {arnd : List Nat} {p : Nat → Bool} {k : Nat} (h : k = (arnd.filter fun o => !p o).length) : V.int (k : Int) = V.int 0 ↔ arnd.all p = true := by
  subst h
  constructor
  · intro e
    have e := V.int.inj e
    have e : (arnd.filter fun o => !p o) = [] := List.length_eq_zero_iff.mp (by omega)
    rw [List.all_eq_true]
    intro o ho
    cases hb : p o with
    | true => rfl
    | false =>
      have : o ∈ (arnd.filter fun o => !p o) := List.mem_filter.mpr ⟨ho, by rw [hb]; rfl⟩
      rw [e] at this
      cases this
  · intro e
    have e2 : (arnd.filter fun o => !p o) = [] := List.filter_eq_nil_iff.mpr fun o ho => by
      rw [List.all_eq_true.mp e o ho]
      decide
    rw [e2]
    rfl
theorem dPrs_refl : ∀ ps : List (Int × Int), PyData.eqvAll (ps.map dPr) (ps.map dPr) = true
  | [] => by simp [PyData.eqvAll]
  | p :: ps => by
    have ih := dPrs_refl ps
    have h := dPr_eqv p p
    rw [decide_eq_true rfl] at h
    rw [List.map_cons, PyData.eqvAll, h, ih]
    rfl
theorem dPrs_eqL (ps : List (Int × Int)) : PyData.eqv (.list (ps.map dPr)) (.list (ps.map dPr)) = true := by
  have := dPrs_refl ps
  simpa [PyData.eqv] using this
/-- the places left near p, told as the law does -/
theorem cov_near {n : Nat} {ds : List (Int × Int)} {rest : List Nat} {p q : Nat} : covB n ds rest p q = (decide (q ≠ p) && ((nearF n ds p).filter fun o => decide (o ∈ rest)).all fun o => decide (o ∈ nearF n ds q)) := by
  unfold covB
  congr 1
  rw [Bool.eq_iff_iff, List.all_eq_true, List.all_eq_true]
  constructor
  · intro h o ho
    refine decide_eq_true (nearF_mem.mpr ⟨(nearF_mem.mp (List.mem_filter.mp ho).1).1, ?_⟩)
    rw [joinsB_comm]
    exact h o ho
  · intro h o ho
    have := of_decide_eq_true (h o ho)
    rw [joinsB_comm]
    exact (nearF_mem.mp this).2
end CF

/-! What runs within an except suite: the exception that is handled is pinned. -/
namespace CF
open PySem L2 PyProof.Rows
/-! ### a comprehension there -/
/-- the block's context, with what is pinned -/
abbrev bkP (X : Cx) (s : Shared) (H : Hp) (scope : Scope) (cenv : Env) (fp : List Addr) (pn : List (Addr × Obj)) : Cx := (X.blk s H scope cenv fp).tr pn (fun _ _ => False)
section
variable {X : Cx} {tg iter elt : Expr} {ifs : List Expr} {scope : Scope} {own : List (Str × Nat)} {pos : Pos} {wi : TI} {g : TG} {tt : TT} {te : TE}
theorem lc_hot {pins : List (Addr × Obj)} {s : Shared} {σ : L2.St} {H : Hp} {Q : VK} {p' : Pos} (hot : L2H.HotC X) (hN : X.N.Nodup) (I : Inv X pins σ H s) (hi : L2H.PIH X tg iter wi) (ok : BlkOk X.N X.env.scope scope own)
    (hg : ∀ s H C cl fp pn, PG (bkP X s H scope (compEnvC scope cl C X.env) fp pn) tg g) (ht : ∀ s H C cl fp pn, PTs (bkP X s H scope (compEnvC scope cl C X.env) fp pn) ifs tt) (he : ∀ s H C cl fp pn, PE (bkP X s H scope (compEnvC scope cl C X.env) fp pn) elt te)
    (hs : ∀ x, foldedSetIterable iter X.env x = pure x) (h : tLc wi g tt te (own.map (·.2)) σ H Q) :
    wpAny (model X.prog X.w) X.A (comprehension (.ListComp elt [⟨tg, iter, ifs, 0⟩] scope pos) scope X.env p' (newList []) false (eval iter X.env)) (EP X pins σ Q) X.xe s := by
  have cellsOf : ∀ y ∈ scope.names, y.2 = .free → ∃ c, X.env.cells.lookup y.1 = some c := fun y hy e => (ok.free y hy e).elim (fun k => I.ok.has _ (.inl k)) fun k => I.ok.has _ (.inr k)
  refine wpAny_comprehension_free (use := none) rfl hs (closure_ok cellsOf) ok.kind (fun y hy e => (ok.uniq y hy).trans (congrArg some e)) (thn (hi.run pins s σ H _ I h) fun xv z1 hx => thn hx fun itv z2 hz2 => ?_)
  obtain ⟨it, fp, tn, J, K2, e, J2, T, sT2, fT2, q⟩ := hz2
  subst e
  refine wpAny_newObj_type (newEnv_comp ?_) (by show 0 ≤ sizeLine; decide)
  obtain ⟨D, hD⟩ : ∃ D, z2.heap.objs.size = D := ⟨_, rfl⟩
  rw [hD]
  have nD : K2 D = none := J2.hok.fresh (Nat.le_of_eq hD)
  obtain ⟨W, ⟨m0, w0⟩, turn⟩ := q D nD
  obtain ⟨z3, hz3⟩ : ∃ z3 : Shared, z3 = { z2 with heap := z2.heap.push { cls := .type "list", data := .seq ([] : List Value).toArray } } := ⟨_, rfl⟩
  rw [← hz3]
  have J3 : Inv X pins σ (upd K2 D (.lst [])) z3 := by
    rw [hz3]
    exact J2.laid (t' := z2.toks) (fun b o e => Heap.get?_push_of_some _ e) (Nat.le_of_eq hD) ⟨Nat.zero_le _, [], 0, .nil, by rw [← hD]; exact Heap.get?_push_size _ rfl⟩
  have up23 : ∀ b o, z2.heap.get? b = some o → z3.heap.get? b = some o := fun b o e => by rw [hz3]; exact Heap.get?_push_of_some _ e
  have fT3 : ∀ b ∈ fp, FpOk X pins (upd K2 D (.lst [])) b ∧ b < z3.heap.objs.size := fun b hb => by
    obtain ⟨o, eo, _⟩ := T.obj _ _ sT2 b hb
    have lt2 := Heap.lt_size eo
    exact ⟨⟨by rw [upd_ne (by rw [← hD]; exact Nat.ne_of_lt lt2)]; exact (fT2 b hb).1, (fT2 b hb).2⟩, Heap.lt_size (up23 b o eo)⟩
  have sT3 : tn 0 z3.heap := T.keep _ _ _ sT2 fun b _ => up23 b
  have B4 := block_start J3 ok hN fT3
  obtain ⟨cl, hcl⟩ : ∃ cl, cl = cellsFrom (z3.heap.objs.size + 1) scope.names (cloFrom X.env.cells scope.names []) := ⟨_, rfl⟩
  rw [← hcl] at B4 ⊢
  obtain ⟨z4, hz4⟩ : ∃ z4 : Shared, z4 = { z3 with heap := pushCells (z3.heap.push { cls := .type "dict", data := .dict #[] }) scope.names } := ⟨_, rfl⟩
  rw [← hz4] at B4 ⊢
  have up34 : ∀ b o, z3.heap.get? b = some o → z4.heap.get? b = some o := fun b o e => by rw [hz4]; exact pushCells_keeps _ _ _ _ (Heap.get?_push_of_some _ e)
  obtain ⟨H3, hH3⟩ : ∃ H3, H3 = upd K2 D (.lst []) := ⟨_, rfl⟩
  rw [← hH3] at J3 B4 fT3 w0
  -- the pins go with
  have pinB : ∀ r ∈ X.pn ++ pins, z4.heap.get? r.1 = some r.2 ∧ H3 r.1 = none ∧ r.1 ≠ z3.heap.objs.size ∧ r.1 ∉ frs X.stack ∧ ∀ v, r.2.data ≠ .cell v := fun r hr => by
    obtain ⟨p1, p2, p3, p4, p5⟩ := J3.pin r hr
    exact ⟨up34 _ _ p1, p2, Nat.ne_of_lt (Heap.lt_size p1), fun hm => (List.mem_cons.mp (J3.stkSub r.1 hm)).elim p3 p4, p5⟩
  have C4 : Inv (bkP X z3 H3 scope (compEnvC scope cl z3.heap.objs.size X.env) fp (X.pn ++ pins)) [] (wipe σ (own.map (·.2))) H3 z4 :=
    ⟨B4.ok.toTry _ _, B4.os, B4.bare, B4.base, B4.loc, B4.cell, B4.free, B4.freeC, fun r hr => pinB r (by rwa [List.append_nil] at hr), B4.hok, B4.len⟩
  have hotB : L2H.HotC (bkP X z3 H3 scope (compEnvC scope cl z3.heap.objs.size X.env) fp (X.pn ++ pins)) := by
    obtain ⟨p, h1, h2⟩ := hot
    exact ⟨p, h1, List.mem_append_left _ h2⟩
  have pg := hg z3 H3 z3.heap.objs.size cl fp (X.pn ++ pins)
  have pt := ht z3 H3 z3.heap.objs.size cl fp (X.pn ++ pins)
  have pe := he z3 H3 z3.heap.objs.size cl fp (X.pn ++ pins)
  have sT4 : tn 0 z4.heap := T.keep _ _ _ sT3 fun b _ => up34 b
  have nf3 : ∀ b ∈ fp, H3 b = none := fun b hb => (fT3 b hb).1.1
  have npin : ∀ b ∈ fp, ∀ r ∈ X.pn ++ pins, r.1 ≠ b := fun b hb => (fT3 b hb).1.2.2.2.2.2
  obtain ⟨ce, hce⟩ : ∃ ce, ce = compEnvC scope cl z3.heap.objs.size X.env := ⟨_, rfl⟩
  have cL : ce.locals = z3.heap.objs.size := by rw [hce]; rfl
  rw [← hce] at C4 hotB pg pt pe
  have stat : ∀ {σ' : L2.St} {K' : Hp} {z' : Shared}, Inv (bkP X z3 H3 scope ce fp (X.pn ++ pins)) [] σ' K' z' → (∀ b ∈ fp, K' b = none) → ∀ b ∈ fp, FpOk (bkP X z3 H3 scope ce fp (X.pn ++ pins)) [] K' b := fun {σ' K' z'} L hn b hb =>
    ⟨hn b hb, (L.ok.exf b hb).1, L.ok.exfs b hb, .inl hb, fun x c e => (L.ok.exf b hb).2 x c e, fun r hr => npin b hb r (by rwa [List.append_nil] at hr)⟩
  have loop : codeAny (model X.prog X.w) X.A (.compLoop (.ListComp elt [⟨tg, iter, ifs, 0⟩] scope pos) 0 (.ref it) (.ref D) ce) (compPost (model X.prog X.w) X.A X.xe none (EP X pins σ Q) (.ref D) z3.heap.objs.size) z4 := by
    refine compLoop_any (fun n z' => ∃ i K', Inv (bkP X z3 H3 scope ce fp (X.pn ++ pins)) [] (wipe σ (own.map (·.2))) K' z' ∧ tn i z'.heap ∧ (∀ b ∈ fp, K' b = none) ∧ W i n K') ?_ m0 ⟨0, H3, C4, sT4, nf3, w0⟩
    rintro n z5 ⟨i, K5, C5, sT5, nf5, w5⟩
    rcases turn i n K5 w5 with ⟨stop, qq⟩ | ⟨go, Nx, hNx, step⟩
    · refine thnF (T.done (bkP X z3 H3 scope ce fp (X.pn ++ pins)) rfl rfl rfl hotB i [] z5 _ K5 (fun _ _ => False) C5 (stat C5 nf5) sT5 stop) fun r z6 ⟨hr, C6⟩ => ?_
      subst hr
      have J6 : Inv X pins σ K5 z6 := J3.call' (ch := fp) C6.os C6.base C6.hok C6.bare fun b hb => ⟨(fT3 b hb).1.2.2.2.1, (fT3 b hb).1.2.1, (fT3 b hb).1.2.2.2.2.1, npin b hb⟩
      have nC : K5 z3.heap.objs.size = none := cL ▸ (show K5 ce.locals = none from C6.free)
      obtain ⟨m, hm, _⟩ := C6.loc
      have hm : z6.heap.Ns z3.heap.objs.size m := cL ▸ (show z6.heap.Ns ce.locals m from hm)
      obtain ⟨f0, f1, f2, f3, f4, f5⟩ := J3.fpOk (H' := K5) (Nat.le_refl _) nC
      exact ⟨m, hm, fun h'' sb => ⟨.ref D, K5, J6.turned (t' := z6.toks) (fun b o hb e => (sb.2 b hb).trans e) f0 f1 f3 f4 f5, rfl, qq⟩⟩
    · refine thnF (T.item (bkP X z3 H3 scope ce fp (X.pn ++ pins)) rfl rfl rfl hotB i [] z5 _ K5 (fun _ _ => False) C5 (stat C5 nf5) sT5 go) fun r z6 ⟨u, hr, h6⟩ => ?_
      subst hr
      refine thnF h6 fun _ z7 ⟨x, K7, C7, r7, y7, sT7, nf7⟩ => ?_
      refine thnF (pg.run _ z7 _ K7 x u _ (C7.pinned (stat C7 nf7) (T.obj _ _ sT7)) r7 (step x K7 y7)) fun _ z8 ⟨σ8, K8, C8, hw8, q8⟩ => thnF (pt.run _ z8 σ8 K8 _ C8 q8) fun b z9 ⟨K9, C9, q9⟩ => ?_
      have fin : ∀ {z' : Shared} {K' : Hp}, Inv (bkP X z3 H3 scope ce fp (X.pn ++ pins)) ([] ++ pinsAt fp z7.heap) σ8 K' z' → Nx K' → ∃ m, m < n ∧ ∃ i K', Inv (bkP X z3 H3 scope ce fp (X.pn ++ pins)) [] (wipe σ (own.map (·.2))) K' z' ∧ tn i z'.heap ∧ (∀ b ∈ fp, K' b = none) ∧ W i m K' := fun {z' K'} L nx => by
        obtain ⟨m', hm, w'⟩ := hNx K' nx
        have at' : ∀ b ∈ fp, ∀ o, z7.heap.get? b = some o → z'.heap.get? b = some o ∧ K' b = none := fun b hb o e => ⟨(L.pin (b, o) (List.mem_append_right _ (List.mem_append_right _ (mem_pinsAt hb e)))).1, (L.pin (b, o) (List.mem_append_right _ (List.mem_append_right _ (mem_pinsAt hb e)))).2.1⟩
        refine ⟨m', hm, i + 1, K', (L.unpinned (pins := [])).weak (by rw [← hw8, wipe_length]) (fun j v e => (wipe_some (by rw [← hw8] at e; exact e)).1), T.keep _ _ _ sT7 fun b hb o e => (at' b hb o e).1, fun b hb => ?_, w'⟩
        obtain ⟨o, e, _⟩ := T.obj _ _ sT7 b hb
        exact (at' b hb o e).2
      cases b with
      | false => exact fin C9 q9
      | true =>
        show wpAny _ _ (eval elt ce) _ _ _
        refine thnF (pe.run _ z9 σ8 K9 _ C9 q9) fun z z10 ⟨yv, K10, C10, r10, acc, hD10, hz10, nx⟩ => ?_
        exact app_ok (X := bkP X z3 H3 scope ce fp (X.pn ++ pins)) C10 hD10 hz10 r10 fun z11 C11 => fin C11 nx
  rw [hce] at loop
  exact codeAny_compStart_list loop (T.self X.A 0 _ _ _ sT4 loop)
end
end CF

namespace CF
open PySem L2 PyProof.Rows
section
variable {X : Cx} {tg iter elt : Expr} {ifs : List Expr} {scope : Scope} {own : List (Str × Nat)} {pos : Pos} {wi : TI} {g : TG} {tt : TT} {te : TE}
theorem pe_lcH (hot : L2H.HotC X) (hN : X.N.Nodup) (hi : L2H.PIH X tg iter wi) (ok : BlkOk X.N X.env.scope scope own)
    (hg : ∀ s H C cl fp pn, PG (bkP X s H scope (compEnvC scope cl C X.env) fp pn) tg g) (ht : ∀ s H C cl fp pn, PTs (bkP X s H scope (compEnvC scope cl C X.env) fp pn) ifs tt) (he : ∀ s H C cl fp pn, PE (bkP X s H scope (compEnvC scope cl C X.env) fp pn) elt te)
    (hs : ∀ x, foldedSetIterable iter X.env x = pure x := by intro _; rfl) : PE X (.ListComp elt [⟨tg, iter, ifs, 0⟩] scope pos) (tLc wi g tt te (own.map (·.2))) := by
  refine ⟨fun pins s σ H Q I h => ?_⟩
  rw [eval_ListComp]
  exact lc_hot hot hN I hi ok hg ht he hs h
/-- isinstance(e, c), e the exception that is handled -/
theorem call_isP {p : Addr × Obj} {D : Addr} (C : ExcC X.K D) (hp : p ∈ X.pn) (hz : Zc (.ref D) none p.2) (hf : ∃ vs, p.2.data = .fields vs) : CallR X (.builtin "isinstance") (rIsE X.K D p.1) := by
  rintro pins s σ H _ us Q I r ⟨c, cv, b, rfl, hcv, e, q⟩
  obtain ⟨u1, u2, rfl, r1, r2⟩ := vals2 r
  obtain rfl : u1 = Value.ref p.1 := r1
  have e2 := hcv _ r2
  subst e2
  have pin := (I.pin p (List.mem_append_left _ hp)).1
  have J : PySem.W.InstAt s.heap p.1 p.2 D none := by
    obtain ⟨x, ⟨oc, od, oda, osl⟩⟩ := p
    obtain ⟨vs, hv⟩ := hf
    obtain ⟨h1, h2⟩ := hz
    dsimp only at h1 h2 hv
    subst h1 h2 hv
    exact ⟨pin, rfl, rfl, trivial⟩
  exact PySem.W.kia_one (PySem.W.handS_kitx_exc C.hg C.hk C.hs C.hd C.ha C.hn C.ht C.hm) I.kIn J e (fun z => nomatch z) fun tk => ⟨.bl b, H, I.tok tk, rfl, q⟩
end
/-! ### a def called there, the exception among its arguments -/
structure FnE (P : Program) (w : World) (K : PySem.W.Frag) (mg : Str → Option Value) (base : Heap) (k : Nat) (f : Addr) (fd : FuncData) (ps : List Str) (sp : Addr → Addr → Sp) : Prop where
  len : ∀ a D vs H Q E, sp a D vs H Q E → vs.length = ps.length
  run : ∀ (A : Around) (outer : List Env) (s : Shared) (H : Hp) (args : Args) (us : List Value) (vs : List V) (Q : VK) (p : Addr × Obj) (D : Addr), L2H.RoomH k A → L2H.Hot1 A p → Zc (.ref D) none p.2 → L2H.PinOk outer H s p → Env0 P w K mg base A outer s H → BindsTo s fd args (ps.zip us) → Vals vs us →
    sp p.1 D vs H Q E0 → codeAny (model P w) A (.call (.ref f) args) (CR CX0 outer P w H s Q E0) s
theorem Fun_okE {P : Program} {w : World} {K : PySem.W.Frag} {mg : Str → Option Value} {base : Heap} {x qual : Str} {st : Stmt} {f : Addr} {fd : FuncData} {N ps : List Str} {k : Nat} {sp : Addr → Addr → Sp} (F : Fun K x qual st f fd) (S : FnScope N ps (defScope st)) (len : ∀ a D vs H Q E, sp a D vs H Q E → vs.length = ps.length)
    (body : ∀ (cdv : Value) (A : Around) (outer : List Env) (s : Shared) (H : Hp) (vs : List V) (Q : VK) (p : Addr × Obj) (D : Addr), L2H.Hot1 A p → Zc (.ref D) none p.2 → L2H.RoomH k (A.deeper (envOfC qual (defScope st) s.heap.objs.size f cdv)) → sp p.1 D vs H Q E0 →
      ∃ t, PSs (L2H.cxH CX0 P w K mg base N qual (defScope st) f cdv A outer s H E0 p) (defBody st) t ∧ t { nx := fun _ H' => Q .non H', rt := Q } (start N vs) H) : FnE P w K mg base (k + 1) f fd ps sp := by
  obtain ⟨oc, od, kV, doc, pm, an, cdv, ct, osl, rfl, lk, hcd⟩ := F.ex
  refine ⟨len, fun A outer s H args us vs Q p D hr hot hz hpin e0 hb r hsp => ?_⟩
  have kin : K.In s.heap := e0.mod.kin.keeps fun b o e => (e0.bs b o e).1
  have kinds : ∀ y ∈ ps.zip us, (defScope st).names.lookup y.1 = some .local ∨ ((defScope st).names.lookup y.1 = some .cell ∧ ((cellsFrom (s.heap.objs.size + 1) (defScope st).names []).lookup y.1).isSome = true) := fun y hy =>
    (S.par y.1 (List.of_mem_zip (a := y.1) (b := y.2) hy).1).imp id fun z => ⟨z, PySem.W.cellsFrom_some _ _ _ (.inl z)⟩
  refine codeAny_call_function hr.depth (kin _ _ lk) rfl S.co S.gen rfl (PySem.W.codeRec_of kin hcd) (hb _ _ _ _ (wpAny_newFunctionEnv_cells S.kind kinds fun env he z x => ?_))
  subst he
  refine ⟨(e0.mod.nolimit.keeps fun b o e => (e0.bs b o e).1).keeps x.toInCall.keep, codeAny_func ?_⟩
  obtain ⟨t, ht, hq⟩ := body cdv A outer s H vs Q p D hot hz (hr.deeper _) hsp
  refine wpAny_mono (ht.run [] z (start N vs) H _ (L2H.inv_startH S hpin e0 (len _ _ _ _ _ _ hsp) r x) hq) (fun fl z' hs => ?_) fun e z' hs => hs
  cases fl with
  | ret u =>
    obtain ⟨v, σ', H', J, rv, q⟩ := hs
    exact (⟨v, H', J.os, J.bare, J.base, J.hok, rv, q⟩ : CE outer P w H s Q u z')
  | next =>
    obtain ⟨σ', H', J, q⟩ := hs
    exact (⟨.non, H', J.os, J.bare, J.base, J.hok, rfl, q⟩ : CE outer P w H s Q .none z')
  | brk => exact hs.elim fun _ h => h.elim fun _ h => h.2.elim
  | cont => exact hs.elim fun _ h => h.elim fun _ h => h.2.elim
section
variable {X : Cx} {k j : Nat} {f : Addr} {fd : FuncData} {ps : List Str} {sp : Addr → Addr → Sp} {x : Str} {q pos : Pos} {e : Expr} {es : List Expr} {t : TA}
/-- f(e, ..) there -/
theorem pe_callE {p : Addr × Obj} {D : Addr} (F : FnE X.prog X.w X.K X.mg X.base k f fd ps sp) (hr : L2H.RoomH k X.A) (hot : L2H.Hot1 X.A p) (hp : p ∈ X.pn) (hz : Zc (.ref D) none p.2) (hg : Gl X x) (hm : X.mg x = some (.ref f)) (hk : PySem.W.keepIn X.K (.ref f) = true) (hb : Binds X.K fd ps [])
    (ha : PA X (e :: es) t) (hdb : (x == ("__debug__" : Str)) = false := by decide) (he : starEach (e :: es) X.env = (false, eval e X.env) :: starEach es X.env := by rfl) (hpl : (backTo pos (starEach es X.env)).any (·.1) = false := by rfl) :
    PE X (.Call (.Name x q) (e :: es) [] pos) (tCall (sp p.1 D) [] E0 t) := by
  refine ⟨fun pins s σ H Q I h => ?_⟩
  refine wpAny_Call_Name_kw (ld_glob I hg hm (PySem.W.callWith_K (h₀ := X.base) I.ok.mod.kin hk (thn (ha.run pos pins s σ H _ I h) fun us z ⟨vs, H1, I1, r, w⟩ => ⟨I1.kIn, ?_⟩) he hpl) hdb)
  have w : sp p.1 D (vs ++ []) H1 Q E0 := w
  rw [List.append_nil] at w
  have b := hb z us I1.kIn (by rw [List.append_nil, ← r.length]; exact F.len _ _ _ _ _ _ w)
  rw [List.append_nil] at b
  obtain ⟨p1, p2, p3, p4, p5⟩ := I1.pin p (List.mem_append_left _ hp)
  refine wpAny_call (codeAny_mono (F.run X.A X.stack z H1 ⟨us, []⟩ us vs Q p D hr hot hz ⟨p1, p2, fun m => (List.mem_cons.mp (I1.stkSub p.1 m)).elim p3 p4, p5⟩ I1.env0 b r w) fun res z' hq => ?_)
  cases res with
  | error e => exact hq.elim
  | ok fl =>
    cases fl with
    | ret u => exact I1.after hq
    | next => exact hq.elim
    | brk => exact hq.elim
    | cont => exact hq.elim
end
end CF

namespace CF
open PySem L2 PyProof.Rows
/-! ### which refusal it is -/
structure CalE (P : Program) (w : World) (K : PySem.W.Frag) (mg : Str → Option Value) (base : Heap) (k : Nat) (x : Str) (ps : List Str) (sp : Addr → Addr → Sp) : Prop where
  ex : ∃ (f : Addr) (fd : FuncData), FnE P w K mg base k f fd ps sp ∧ mg x = some (.ref f) ∧ PySem.W.keepIn K (.ref f) = true ∧ Binds K fd ps []
section
variable {X : Cx} {k j : Nat} {ps : List Str} {sp : Addr → Addr → Sp} {x : Str} {q pos : Pos} {e : Expr} {es : List Expr} {t : TA}
theorem pe_clE {p : Addr × Obj} {D : Addr} (c : CalE X.prog X.w X.K X.mg X.base k x ps sp) (hr : L2H.RoomH j X.A) (hot : L2H.Hot1 X.A p) (hp : p ∈ X.pn) (hz : Zc (.ref D) none p.2) (hg : Gl X x) (ha : PA X (e :: es) t) (hk : k ≤ j := by decide)
    (hdb : (x == ("__debug__" : Str)) = false := by decide) (he : starEach (e :: es) X.env = (false, eval e X.env) :: starEach es X.env := by rfl) (hpl : (backTo pos (starEach es X.env)).any (·.1) = false := by rfl) :
    PE X (.Call (.Name x q) (e :: es) [] pos) (tCall (sp p.1 D) [] E0 t) := by
  obtain ⟨f, fd, F, hm, kp, b⟩ := c.ex
  exact pe_callE F (hr.mono hk) hot hp hz hg hm kp b ha hdb he hpl
theorem pss_only {st : List Stmt} {cls : Value} {d : Option Addr} {t : Addr → TS} (h : ∀ D, cls = .ref D → d = none → PSs X st (t D)) : PSs X st (fun D0 σ H => ∃ D, cls = .ref D ∧ d = none ∧ t D D0 σ H) :=
  ⟨fun pins s σ H D0 I ⟨D, h1, h2, h3⟩ => (h D h1 h2).run pins s σ H D0 I h3⟩
end
/-- the five kinds, in the law's order -/
def kinds : List Str := ["NoFloor", "NoStanding", "Caught", "Free", "NoNumber"]
/-- what is known of the class at D, the kind i -/
structure Oth (K : PySem.W.Frag) (mg : Str → Option Value) (D : Addr) (i : Nat) : Prop where
  exc : ExcC K D
  c0 : ∃ C, mg "NoFloor" = some (.ref C) ∧ PySem.W.kitOne K (.ref D) (.ref C) = some (decide (i = 0))
  c1 : ∃ C, mg "NoStanding" = some (.ref C) ∧ PySem.W.kitOne K (.ref D) (.ref C) = some (decide (i = 1))
  c2 : ∃ C, mg "Caught" = some (.ref C) ∧ PySem.W.kitOne K (.ref D) (.ref C) = some (decide (i = 2))
  c3 : ∃ C, mg "Free" = some (.ref C) ∧ PySem.W.kitOne K (.ref D) (.ref C) = some (decide (i = 3))
  c4 : ∃ C, mg "NoNumber" = some (.ref C) ∧ PySem.W.kitOne K (.ref D) (.ref C) = some (decide (i = 4))
  ve : PySem.W.kitOne K (.ref D) (.type "ValueError") = some true
/-- is it of another kind than wanted -/
def spOther (K : PySem.W.Frag) (mg : Str → Option Value) (a D : Addr) : Sp := fun vs H Q _ => ∃ j i : Nat, vs = [.ref a, nv j] ∧ j < 5 ∧ i < 5 ∧ Oth K mg D i ∧ ∀ H', Same H H' → Q (.bl (decide (j ≠ i))) H'
/-- the classes' names stand in the text -/
structure Five (mg : Str → Option Value) : Prop where
  c0 : ∃ C, mg "NoFloor" = some (.ref C)
  c1 : ∃ C, mg "NoStanding" = some (.ref C)
  c2 : ∃ C, mg "Caught" = some (.ref C)
  c3 : ∃ C, mg "Free" = some (.ref C)
  c4 : ∃ C, mg "NoNumber" = some (.ref C)
def dBs (bs : List Bool) : List PyData := bs.map PyData.bool
theorem dBs_eqv : ∀ is js : List Bool, PyData.eqvAll (dBs is) (dBs js) = decide (is = js)
  | [], [] => by simp [dBs, PyData.eqvAll]
  | [], j :: js => by simp [dBs, PyData.eqvAll]
  | i :: is, [] => by simp [dBs, PyData.eqvAll]
  | i :: is, j :: js => by
    have ih := dBs_eqv is js
    unfold dBs at ih ⊢
    simp [PyData.eqvAll, PyData.eqv, ih, Bool.beq_eq_decide_eq, Bool.decide_and]
theorem dBs_lay : ∀ is : List Bool, PyData.canLayAll0 (dBs is) = true
  | [] => rfl
  | i :: is => by
    have ih := dBs_lay is
    unfold dBs at ih ⊢
    rw [List.map_cons, PyData.canLayAll0, ih]
    simp [PyData.canLay0]
theorem dBs_depth : ∀ is : List Bool, PyData.depthAll (dBs is) = 0
  | [] => by simp [dBs, PyData.depthAll]
  | i :: is => by
    have ih := dBs_depth is
    unfold dBs at ih ⊢
    rw [List.map_cons, PyData.depthAll, ih]
    simp [PyData.depth]
theorem dBs_shaped (is : List Bool) : SeqAt.shaped (.list (dBs is)) = true := by
  have h1 := dBs_lay is
  have h2 := dBs_depth is
  simp only [SeqAt.shaped, PyData.canLay0, PyData.depth, h1, h2, Bool.true_and]
  exact decide_eq_true (by omega)
theorem dBs_dpAll {K : PySem.W.Frag} {H : Hp} : ∀ is : List Bool, DpAll K H (is.map V.bl) (dBs is)
  | [] => .nil
  | i :: is => .cons (.bl i) (dBs_dpAll is)
theorem dBs_eqL (is js : List Bool) : PyData.eqv (.list (dBs is)) (.list (dBs js)) = decide (is = js) := by
  have := dBs_eqv is js
  simpa [PyData.eqv] using this
def RBl (_ : Hp) (v : V) (b : Bool) : Prop := v = .bl b
theorem rbl_ext : ∀ F F' v x, Same F F' → RBl F v x → RBl F' v x := fun _ _ _ _ _ h => h
theorem rbl_map {F : Hp} {ys : List V} {ks : List Bool} (h : Paired (RBl F) ys ks) : ys = ks.map V.bl := by
  induction h with
  | nil => rfl
  | cons r t ih =>
    rw [List.map_cons, ← ih]
    congr 1
end CF

namespace CF
open PySem L2 PyProof.Rows
section
variable {X : Cx} {C : Addr} {m : Str} {k j : Nat} {ps : List Str} {sp : Sp} {pos apos : Pos} {o e : Expr} {es : List Expr} {to : TE} {ta : TA} {W : WX}
/-- o.m(e, ..), its exceptions wished W -/
theorem pe_mtS {pl : Sem Bool} (c : Met X.prog X.w X.K X.mg X.base C k m ps sp) (cl : Cls X.K C) (hr : Room j X.A) (tk : L2N.Takes X W) (ho : PE X o to) (ha : PA X (e :: es) ta) (hk : k ≤ j := by decide)
    (hst : starEach (e :: es) X.env = (false, eval e X.env) :: starEach es X.env := by rfl) (hpl : (backTo pos (starEach es X.env)).any (·.1) = false := by rfl)
    (ht : eval (.Call (.Attribute o m apos) (e :: es) [] pos) X.env = (do let ov ← eval o X.env; standAt apos.atName; let (f, first) ← holding [ov] (getMethod ov m pl); callWith pos f first (backTo pos (starEach (e :: es) X.env)) (backToKw pos (keywordEach [] X.env))) := by rfl) :
    PE X (.Call (.Attribute o m apos) (e :: es) [] pos) (L2H.tMethH C m sp (WE W) to ta) := by
  obtain ⟨f, fd, F, hm, b⟩ := c.ex
  refine ⟨fun pins s σ H Q I h => PySem.W.methodCall_KW (pl := pl) (thn (ho.run pins s σ H _ I h) fun u z1 ⟨x, H1, I1, rx, a, dx, fs, ex, ea, l, q⟩ => ?_) ht⟩
  subst ex
  obtain rfl : u = Value.ref a := rx
  refine getmeth_ok I1 ea cl hm l (PySem.W.callWith_K (first := [.ref a]) (h₀ := X.base) I1.ok.mod.kin hm.kp (thn (ha.run pos pins z1 σ H1 _ I1 q) fun us z2 ⟨vs, H2, I2, r, q2⟩ => ⟨I2.kIn, ?_⟩) hst hpl)
  exact run_fnS (us := .ref a :: us) (vs := .ref a :: vs) F (hr.mono hk) b (L2N.passAt tk σ) I2 (.cons rfl r) q2
end
/-- a refusal of kind i: its class at D, all refusals' class at CE -/
structure Rfs (K : PySem.W.Frag) (mg : Str → Option Value) (x : Str) (D : Addr) (i : Nat) : Prop where
  oth : Oth K mg D i
  ex : ∃ CE, mg "ChaseError" = some (.ref CE) ∧ PySem.W.exmOne K (.ref D) (.ref CE) = some true
/-- the suite: return not _law_other(e, k) -/
def tSuite (K : PySem.W.Frag) (mg : Str → Option Value) (i : Nat) (kk : V) : Addr → Value → Option Addr → TS := fun a cls d D0 σ H => ∃ D, cls = .ref D ∧ d = none ∧ tRet (tNotV (tCall (spOther K mg a D) [] E0 (tCons (tVar i) (tCons (tC kk) tNil)))) D0 σ H
theorem hot_suite {A : Around} {a : Addr} {oe : Obj} {cls : Value} {d : Option Addr} (hz : L2N.Zn cls d oe) (hf : ∃ vs, oe.data = .fields vs) : L2H.Hot1 (A.mark (some (.ref a))) (a, oe) := by
  obtain ⟨vs, hv⟩ := hf
  exact ⟨rfl, vs, hv, hz.2.2 vs hv⟩
end CF

namespace CF
open PySem L2 PyProof.Rows
/-! ### the plan: one less -/
theorem rk_step {n : Nat} {ds : List (Int × Int)} {c : Nat} {cs : List Nat} {r h : Nat} (hk : ranksF n ds c cs r = some (h + 1)) : ∃ g ∈ glF (arF n ds) cs, behF (nearF n ds r) (ranksF n ds c) g r = some h := by
  obtain ⟨h1, h2⟩ := rk_iff.mp hk
  rcases lap_iff.mp h1 with h1 | ⟨hcs, hr, g, hg, hb⟩
  · rw [h2 h (Nat.lt_succ_self h)] at h1
    cases h1
  refine ⟨g, hg, ?_⟩
  have low : ∀ t, (behF (nearF n ds r) (lapN n ds c t) g r).isSome = true → h ≤ t := fun t e => by
    have := lap_iff.mpr (.inr ⟨hcs, hr, g, hg, e⟩)
    rcases Nat.lt_or_ge t h with z | z
    · rw [h2 (t + 1) (by omega)] at this
      cases this
    · exact z
  by_cases c0 : r ∈ g
  · have := low 0 (behF_iff.mpr (.inl c0))
    have : h = 0 := by omega
    rw [this, behF_in c0]
  · have hall : ∀ p ∈ nearF n ds r, (lapN n ds c h g p).isSome = true := (behF_iff.mp hb).resolve_left c0
    have hrk : ∀ p ∈ nearF n ds r, ∃ k, ranksF n ds c g p = some k ∧ k ≤ h ∧ lapN n ds c h g p = some k := fun p hp => by
      obtain ⟨k, hk⟩ := Option.isSome_iff_exists.mp (hall p hp)
      exact ⟨k, by rw [rk_of_lap (hall p hp), hk], (lap_first hk).1, hk⟩
    obtain ⟨M, m1, m2, m3, m4⟩ := behAll (ranksF n ds c) g (nearF n ds r) 0 fun p hp => by
      obtain ⟨k, e, _⟩ := hrk p hp
      rw [e]
      rfl
    have hM : M ≤ h := by
      rcases m3 with e | ⟨p, hp, e⟩
      · omega
      · obtain ⟨k, e2, hk, _⟩ := hrk p hp
        rw [e] at e2
        cases e2
        exact hk
    have hM2 : h ≤ M := low M (behF_iff.mpr (.inr fun p hp => by
      obtain ⟨k, e, _, e2⟩ := hrk p hp
      have := m4 p hp k e
      obtain ⟨_, f2, _⟩ := lap_first e2
      rw [lap_some_le f2 this]
      exact f2))
    unfold behF
    rw [if_neg c0, m1]
    congr 1
    omega
/-- the plan's step is one of the goings, one less behind it -/
theorem chF_step {n : Nat} {ds : List (Int × Int)} {cs : List Nat} {r h : Nat} (hk : ranksF n ds cs.length cs r = some (h + 1)) : (glF (arF n ds) cs).find? (chB n ds cs r (h + 1)) = some (chF n ds cs r (h + 1)) ∧ chF n ds cs r (h + 1) ∈ glF (arF n ds) cs ∧ behF (nearF n ds r) (ranksF n ds cs.length) (chF n ds cs r (h + 1)) r = some h := by
  obtain ⟨g, hg, hb⟩ := rk_step hk
  have hgb : chB n ds cs r (h + 1) g = true := by
    unfold chB
    rw [hb]
    refine decide_eq_true ?_
    show V.int (h : Int) = V.int (((h + 1 : Nat) : Int) - 1)
    congr 1
    omega
  cases e : (glF (arF n ds) cs).find? (chB n ds cs r (h + 1)) with
  | none =>
    rw [List.find?_eq_none] at e
    exact absurd hgb (e g hg)
  | some g' =>
    have e2 : chF n ds cs r (h + 1) = g' := by
      unfold chF
      rw [e]
      rfl
    refine ⟨by rw [e2], by rw [e2]; exact List.mem_of_find?_eq_some e, ?_⟩
    rw [e2]
    have := List.find?_some e
    unfold chB at this
    have := of_decide_eq_true this
    cases e3 : behF (nearF n ds r) (ranksF n ds cs.length) g' r with
    | none =>
      rw [e3] at this
      cases this
    | some k =>
      rw [e3] at this
      have := V.int.inj (show V.int (k : Int) = V.int (((h + 1 : Nat) : Int) - 1) from this)
      congr 1
      omega
end CF

namespace CF
open PySem L2 PyProof.Rows
/-! ### starts: the mirror -/
def worstF (n : Nat) (L : Rk) (g : List Nat) : Option Nat := (List.range n).foldl (behStep L g) (some 0)
def stStep (W : List Nat → Option Nat) (acc : Option (List Nat × Nat)) (g : List Nat) : Option (List Nat × Nat) := match W g with
  | none => acc
  | some t => match acc with
    | none => some (g, t)
    | some (b, m) => if t < m then some (g, t) else some (b, m)
def bestF (n : Nat) (ds : List (Int × Int)) (c : Nat) : Option (List Nat × Nat) := (cssF n c).foldl (stStep (worstF n (ranksF n ds c))) none
def spWorst (P : Program) (w : World) (C : Addr) : Sp := fun vs H Q _ => ∃ (F : Hp) (v : V) (n : Nat) (ds : List (Int × Int)) (rd : Addr) (L : Rk) (b : Nat) (tq : Addr) (g : List Nat), vs = [v, .ref rd, .ref tq] ∧ Same F H ∧ FlrAt C F v n ds ∧ 1 ≤ n ∧ n ≤ 6 ∧ RkH P w H rd L b ∧ F tq = some (.tup (g.map nv)) ∧
  ∀ F' H', Grow F H F' H' → Q (opN (worstF n L g)) H'
/-- the best start, where its list may change -/
def spStarts (C CM : Addr) : Sp := fun vs H Q E => ∃ (F : Hp) (v : V) (n : Nat) (ds : List (Int × Int)) (c : Int), vs = [v, .int c] ∧ Same F H ∧ FlrAt C F v n ds ∧ 1 ≤ n ∧ n ≤ 6 ∧
  (∀ k : Nat, c = (k : Int) → (k = 1 ∨ k = 2) → (∀ F' H', Grow F H F' H' → bestF n ds k = none → Q .non H') ∧ (∀ F' H' tb lb g t, Grow F H F' H' → bestF n ds k = some (g, t) → F' tb = some (.tup [.ref lb, nv t]) → F' lb = none → H' lb = some (.lst (g.map nv)) → H lb = none → g.length = k → Q (.ref tb) H')) ∧
  (c ≠ 1 → c ≠ 2 → ∀ H', Grow F H F H' → E (.ref CM) none H')
theorem stStep_mem {W : List Nat → Option Nat} : ∀ (l : List (List Nat)) (acc : Option (List Nat × Nat)) (g : List Nat) (t : Nat), l.foldl (stStep W) acc = some (g, t) → acc = some (g, t) ∨ (g ∈ l ∧ W g = some t)
  | [], acc, g, t, h => .inl h
  | x :: l, acc, g, t, h => by
    rw [List.foldl_cons] at h
    rcases stStep_mem l _ g t h with e | ⟨e1, e2⟩
    · unfold stStep at e
      cases hw : W x with
      | none =>
        rw [hw] at e
        exact .inl e
      | some m =>
        rw [hw] at e
        cases acc with
        | none =>
          have e : some (x, m) = some (g, t) := e
          cases e
          exact .inr ⟨List.mem_cons_self, hw⟩
        | some bm =>
          obtain ⟨b, k⟩ := bm
          have e : (if m < k then some (x, m) else some (b, k)) = some (g, t) := e
          split at e
          · cases e
            exact .inr ⟨List.mem_cons_self, hw⟩
          · exact .inl e
    · exact .inr ⟨List.mem_cons_of_mem _ e1, e2⟩
theorem stStep_some {W : List Nat → Option Nat} : ∀ (l : List (List Nat)) (acc : Option (List Nat × Nat)), (acc.isSome = true ∨ ∃ g ∈ l, (W g).isSome = true) → (l.foldl (stStep W) acc).isSome = true
  | [], acc, h => by
    rcases h with h | ⟨g, hg, _⟩
    · exact h
    · cases hg
  | x :: l, acc, h => by
    rw [List.foldl_cons]
    refine stStep_some l _ ?_
    unfold stStep
    cases hw : W x with
    | none =>
      rcases h with h | ⟨g, hg, e⟩
      · exact .inl h
      · rcases List.mem_cons.mp hg with rfl | hg
        · rw [hw] at e
          cases e
        · exact .inr ⟨g, hg, e⟩
    | some m =>
      left
      cases acc with
      | none => rfl
      | some bm =>
        obtain ⟨b, k⟩ := bm
        show (if m < k then some (x, m) else some (b, k)).isSome = true
        split <;> rfl
theorem worst_some {n : Nat} {L : Rk} {g : List Nat} (h : ∀ p, p < n → (L g p).isSome = true) : (worstF n L g).isSome = true := by
  obtain ⟨M, e, _⟩ := behAll L g (List.range n) 0 fun p hp => h p (List.mem_range.mp hp)
  unfold worstF
  rw [e]
  rfl
/-- two chasers always begin somewhere, on up to five places -/
theorem best_two {n : Nat} {ds : List (Int × Int)} (h : FloOk n ds) (h5 : n ≤ 5) : bestF n ds 2 ≠ none := fun e => by
  have h1 := h.n1
  have := stStep_some (W := worstF n (ranksF n ds 2)) (cssF n 2) none (.inr ⟨[0, 0], css_two h1 h1, worst_some fun p hp => by
    obtain ⟨k, hk⟩ := rk_two h h5 (css_two h1 h1) hp
    rw [hk]
    rfl⟩)
  unfold bestF at e
  rw [e] at this
  cases this
end CF

namespace CF
open PySem L2 PyProof.Rows
/-- the best start: a tuple of its list and its turns -/
def BestR (F H : Hp) (o3 : V) : Option (List Nat × Nat) → Prop
  | none => o3 = .non
  | some (g, t) => ∃ tb lb, o3 = .ref tb ∧ F tb = some (.tup [.ref lb, nv t]) ∧ F lb = some (.lst (g.map nv)) ∧ H lb = none
theorem BestR.ext {F F' H : Hp} {o3 : V} {acc : Option (List Nat × Nat)} (e : Same F F') (h : BestR F H o3 acc) : BestR F' H o3 acc := by
  cases acc with
  | none => exact h
  | some gt =>
    obtain ⟨g, t⟩ := gt
    obtain ⟨tb, lb, h0, h1, h2, h3⟩ := h
    exact ⟨tb, lb, h0, e _ _ h1, e _ _ h2, h3⟩
def spLDue (P : Program) (w : World) : Sp := fun vs H Q _ => ∃ (F : Hp) (n : Nat) (rd : Addr) (L : Rk) (b c : Nat), vs = [nv n, .ref rd, nv c] ∧ Same F H ∧ 1 ≤ n ∧ n ≤ 6 ∧ (c = 1 ∨ c = 2) ∧ RkH P w H rd L b ∧
  ∀ F' H' u, Grow F H F' H' → BestR F' H u ((cssF n c).foldl (stStep (worstF n L)) none) → Q u H'
theorem notInV_opN (ks : List (Option Nat)) : (if true = true then !inV .non (ks.map opN) else inV .non (ks.map opN)) = !decide (none ∈ ks) := by
  rw [if_pos rfl]
  have := inV_opN ks
  rw [if_neg (by decide)] at this
  rw [this]
/-- the greatest of the ranks -/
theorem rmax_of {K : PySem.W.Frag} {H : Hp} {D : Addr} {nr : List Nat} {L : Rk} {g : List Nat} {M : Nat} {Q : VK} (hs : SqL K H D ((nr.map fun p => L g p).map opN)) (hno : none ∉ nr.map fun p => L g p) (hne : 0 < nr.length) (hM : nr.foldl (behStep L g) (some 0) = some M) (q : Q (nv M) H) : rMax K [.ref D] H Q := by
  obtain ⟨ns, hns⟩ := all_some hno
  have hl : ns.length = nr.length := by
    have := congrArg List.length hns
    rw [List.length_map, List.length_map] at this
    exact this.symm
  obtain ⟨M', m1, m2, m3, m4⟩ := behAll L g nr 0 fun p hp' => by
    cases e : L g p with
    | some k => rfl
    | none => exact absurd (List.mem_map.mpr ⟨p, hp', e⟩) hno
  rw [hM] at m1
  cases m1
  refine ⟨D, asI ns, rfl, by rw [hns] at hs; rw [asI_nv]; simpa [List.map_map, Function.comp_def, opN] using hs, by rw [asI_len]; omega, fun m hm hle => ?_⟩
  have memM : ∀ z : Nat, ((z : Nat) : Int) ∈ asI ns ↔ some z ∈ nr.map fun p => L g p := fun z => by
    rw [mem_asI, hns]
    simp
  have hMm : ((M : Nat) : Int) ∈ asI ns := by
    rw [memM]
    rcases m3 with e | ⟨p, hp', e⟩
    · obtain ⟨p, hp'⟩ := List.exists_mem_of_length_pos hne
      cases e2 : L g p with
      | none => exact absurd (List.mem_map.mpr ⟨p, hp', e2⟩) hno
      | some z =>
        have := m4 p hp' z e2
        exact List.mem_map.mpr ⟨p, hp', by rw [e2]; congr 1; omega⟩
    · exact List.mem_map.mpr ⟨p, hp', e⟩
  have hm2 : ∃ z : Nat, m = (z : Int) ∧ z ≤ M := by
    unfold asI at hm
    obtain ⟨z, hz, rfl⟩ := List.mem_map.mp hm
    refine ⟨z, rfl, ?_⟩
    obtain ⟨p, hp', e⟩ := List.mem_map.mp ((memM z).mp (mem_asI.mpr hz))
    exact m4 p hp' z e
  obtain ⟨z, rfl, hz⟩ := hm2
  have := hle _ hMm
  have ez : z = M := by omega
  rw [ez]
  exact q
theorem paired_rep {α β : Type} {R : α → β → Prop} {x : α} {y : β} (h : R x y) : ∀ n, Paired R (List.replicate n x) (List.replicate n y)
  | 0 => .nil
  | n + 1 => .cons h (paired_rep h n)
theorem rep_flat {α : Type} (x : α) : ∀ n, (List.replicate n [x]).flatten = List.replicate n x
  | 0 => rfl
  | n + 1 => by
    rw [List.replicate_succ, List.flatten_cons, rep_flat x n]
    rfl
theorem rmax_data {K : PySem.W.Frag} {H : Hp} {D : Addr} {nr : List Nat} {L : Rk} {g : List Nat} {M : Nat} (hs : SqL K H D ((nr.map fun p => L g p).map opN)) (hno : none ∉ nr.map fun p => L g p) (hne : 0 < nr.length) (hM : nr.foldl (behStep L g) (some 0) = some M) :
    ∃ ns : List Int, SqL K H D (ns.map V.int) ∧ 0 < ns.length ∧ ∀ m, m ∈ ns → (∀ y, y ∈ ns → y ≤ m) → m = (M : Int) := by
  obtain ⟨a, ns, e, h1, h2, h3⟩ := rmax_of (K := K) (Q := fun v _ => v = nv M) hs hno hne hM rfl
  injection e with e _
  injection e with e
  subst e
  exact ⟨ns, h1, h2, fun m hm hle => V.int.inj (h3 m hm hle)⟩
end CF

namespace CF
open PySem L2 PyProof.Rows
/-! ### a loop over a list within an except suite that is left before the list's end -/
def ItlE (K : PySem.W.Frag) (a : Addr) : It := { Itl K a with stop := fun _ _ => False }
theorem turn_listE {P : Program} {w : World} {K : PySem.W.Frag} {tg : Expr} (a it : Addr) : L2H.TurnH P w K tg (ItlE K a) [it] it (fun i h => h.IsListIter it a i) where
  mem := List.mem_singleton.mpr rfl
  obj := fun i h ⟨o, e, _, d⟩ b hb => by
    obtain rfl := List.mem_singleton.mp hb
    exact ⟨o, e, fun v z => nomatch (d.symm.trans z)⟩
  keep := fun i h h' st k => st.at (k it (List.mem_singleton.mpr rfl))
  item := by
    rintro X rfl rfl rfl _ i pins s σ H E I hf st ⟨xs, x, hq, hx⟩
    obtain ⟨f0, f1, f2, f3, f4, f5⟩ := hf it (List.mem_singleton.mpr rfl)
    obtain ⟨its, rv, p, _⟩ := I.list hq
    obtain ⟨u, hu, ru⟩ := rv.get hx
    refine wpAny_pyNext_list_item st p.isList (x := u) (by simpa using hu) fun h' ⟨o, e, c, d⟩ sb => ⟨u, rfl, ?_⟩
    exact go_of (s := { s with heap := h' }) e c d (by decide) ⟨x, H, I.turned (t' := s.toks) (fun b o hb e => (sb.2 b hb).trans e) f0 f1 f3 f4 f5, ru, ⟨rfl, fun ys hy => (I.list_inj hy hq).symm ▸ hx⟩, ⟨o, e, c, d⟩, fun b hb => (hf b hb).1⟩
  done := fun _ _ _ _ _ _ _ _ _ _ _ _ _ _ z => z.elim
  self := fun _ _ _ _ _ st h => wpAny_pyIter_listiter st h
def iListE (K : PySem.W.Frag) (tl : TE) : TI := fun σ H R => tl σ H fun x H1 => ∃ a, x = .ref a ∧ (∃ xs, SqL K H1 a xs) ∧ R (ItlE K a) H1
theorem pi_listE {X : Cx} {tg l : Expr} {tl : TE} (hl : PE X l tl) : L2H.PIH X tg l (iListE X.K tl) := by
  refine ⟨fun pins s σ H R I h => thn (hl.run pins s σ H _ I h) fun v z ⟨x, H1, I1, r1, a, e, ⟨xs, hq⟩, q⟩ => ?_⟩
  subst e
  cases r1
  obtain ⟨its, rv, p, _⟩ := I1.list hq
  refine wpAny_pyIter_list p.isList ⟨z.heap.objs.size, [z.heap.objs.size], _, _, H1, rfl, I1.kept (t' := z.toks) fun b o e => Heap.get?_push_of_some _ e, turn_listE a _, ⟨_, Heap.get?_push_size _ rfl, rfl, rfl⟩, fun b hb => ?_, q⟩
  obtain rfl := List.mem_singleton.mp hb
  exact I1.fpOk (Nat.le_refl _) (I1.hok.fresh (Nat.le_refl _))
/-- its reading: in the turns ahead of k nothing happens, at k the suite is left -/
theorem for_listE {K : PySem.W.Frag} {g : TG} {tb : TS} {D : Ends} {σ : L2.St} {H : Hp} {a : Addr} {xs : List V} (k : Nat) (hk : k < xs.length) (Pv : Nat → L2.St → Hp → Prop) (h0 : Pv 0 σ H) (hq : ∀ i σ H, Pv i σ H → SqL K H a xs)
    (hs : ∀ i x σ H, i < k → xs[i]? = some x → Pv i σ H → g x σ H fun σ2 H2 => tb { D with nx := Pv (i + 1), ct := Pv (i + 1), bk := D.nx } σ2 H2)
    (hl : ∀ x σ H, xs[k]? = some x → Pv k σ H → g x σ H fun σ2 H2 => tb { D with nx := fun _ _ => False, ct := fun _ _ => False, bk := D.nx } σ2 H2) :
    ∃ W : Nat → Nat → L2.St → Hp → Prop, (∃ m, W 0 m σ H) ∧ ∀ i m σ H, W i m σ H → ((ItlE K a).stop i H ∧ D.nx σ H) ∨ ((ItlE K a).go i H ∧ ∃ N : L2.St → Hp → Prop, (∀ σ' H', N σ' H' → ∃ m', m' < m ∧ W (i + 1) m' σ' H') ∧ ∀ x H', (ItlE K a).yld i H x H' → g x σ H' fun σ2 H2 => tb { D with nx := N, ct := N, bk := D.nx } σ2 H2) := by
  refine ⟨fun i m σ H => m = k - i ∧ i ≤ k ∧ Pv i σ H, ⟨k, rfl, Nat.zero_le _, h0⟩, ?_⟩
  rintro i m σ H ⟨rfl, hi, p⟩
  have hsq := hq i σ H p
  have hlt : i < xs.length := by omega
  refine .inr ⟨⟨xs, xs[i], hsq, List.getElem?_eq_getElem hlt⟩, ?_⟩
  by_cases c : i = k
  · subst c
    refine ⟨fun _ _ => False, fun _ _ z => z.elim, fun x H' ⟨e, hx⟩ => ?_⟩
    subst e
    exact hl x σ H' (hx xs hsq) p
  · refine ⟨Pv (i + 1), fun σ' H' p' => ⟨k - (i + 1), by omega, rfl, by omega, p'⟩, fun x H' ⟨e, hx⟩ => ?_⟩
    subst e
    exact hs i x σ H' (by omega) (hx xs hsq) p
end CF

namespace CF
open PySem L2 PyProof.Rows
/-! ### flight goes where the rank is greatest -/
theorem flF_max {L : Nat → Option Nat} : ∀ (l : List Nat) (acc : Option (Nat × Nat)), (∀ p ∈ l, (L p).isSome = true) → (acc.isSome = true ∨ l ≠ []) → (∀ b q, acc = some (b, q) → L q = some b) →
    ∃ M, L (flF L l acc) = some M ∧ (∀ p ∈ l, ∀ k, L p = some k → k ≤ M) ∧ (∀ b q, acc = some (b, q) → b ≤ M) ∧ (flF L l acc ∈ l ∨ ∃ b, acc = some (b, flF L l acc))
  | [], none, _, h, _ => by
    rcases h with h | h
    · cases h
    · exact absurd rfl h
  | [], some (b, q), _, _, ha => ⟨b, ha b q rfl, (fun p hp => nomatch hp), (fun b' q' e => by cases e; exact Nat.le_refl _), .inr ⟨b, rfl⟩⟩
  | p :: l, acc, hall, _, ha => by
    obtain ⟨h, hh⟩ := Option.isSome_iff_exists.mp (hall p List.mem_cons_self)
    have hl : ∀ q ∈ l, (L q).isSome = true := fun q hq => hall q (List.mem_cons_of_mem _ hq)
    have step : ∃ b q, flF L (p :: l) acc = flF L l (some (b, q)) ∧ L q = some b ∧ h ≤ b ∧ (∀ b' q', acc = some (b', q') → b' ≤ b) ∧ (q = p ∨ acc = some (b, q)) := by
      cases acc with
      | none =>
        refine ⟨h, p, ?_, hh, Nat.le_refl _, (fun _ _ e => nomatch e), .inl rfl⟩
        show (match L p with | none => p | some h => _) = _
        rw [hh]
      | some bq =>
        obtain ⟨b, q⟩ := bq
        have e : flF L (p :: l) (some (b, q)) = if h > b then flF L l (some (h, p)) else flF L l (some (b, q)) := by
          show (match L p with | none => p | some h => _) = _
          rw [hh]
        by_cases c : h > b
        · exact ⟨h, p, by rw [e, if_pos c], hh, Nat.le_refl _, (fun b' q' e' => by cases e'; omega), .inl rfl⟩
        · exact ⟨b, q, by rw [e, if_neg c], ha b q rfl, by omega, (fun b' q' e' => by cases e'; exact Nat.le_refl _), .inr rfl⟩
    obtain ⟨b, q, e, hq, hb, hacc, hor⟩ := step
    obtain ⟨M, m1, m2, m3, m4⟩ := flF_max l (some (b, q)) hl (.inl rfl) fun b' q' e' => by cases e'; exact hq
    have hbM := m3 b q rfl
    rw [e]
    refine ⟨M, m1, fun z hz k hk => ?_, fun b' q' e' => Nat.le_trans (hacc b' q' e') hbM, ?_⟩
    · rcases List.mem_cons.mp hz with rfl | hz
      · rw [hh] at hk
        cases hk
        omega
      · exact m2 z hz k hk
    · rcases m4 with h1 | ⟨b', e'⟩
      · exact .inl (List.mem_cons_of_mem _ h1)
      · have e3 : q = flF L l (some (b, q)) := by
          have := Option.some.inj e'
          exact congrArg Prod.snd this
        rcases hor with h1 | h1
        · left
          rw [← e3, h1]
          exact List.mem_cons_self
        · right
          exact ⟨b, by rw [h1]; exact congrArg some (Prod.ext rfl e3)⟩
/-- what is behind the plan's step -/
theorem beh_le {n : Nat} {ds : List (Int × Int)} {c : Nat} {g : List Nat} {r h : Nat} (hb : behF (nearF n ds r) (ranksF n ds c) g r = some h) (hr : r ∉ g) : (∀ p ∈ nearF n ds r, ∃ k, ranksF n ds c g p = some k ∧ k ≤ h) ∧ (h = 0 ∨ ∃ p ∈ nearF n ds r, ranksF n ds c g p = some h) := by
  unfold behF at hb
  rw [if_neg hr] at hb
  have hall : ∀ p ∈ nearF n ds r, (ranksF n ds c g p).isSome = true := fun p hp => by
    cases e : ranksF n ds c g p with
    | some k => rfl
    | none =>
      rw [behSome (ranksF n ds c) g (nearF n ds r) 0 ⟨p, hp, e⟩] at hb
      cases hb
  obtain ⟨M, m1, m2, m3, m4⟩ := behAll (ranksF n ds c) g (nearF n ds r) 0 hall
  rw [m1] at hb
  cases hb
  refine ⟨fun p hp => ?_, m3⟩
  obtain ⟨k, hk⟩ := Option.isSome_iff_exists.mp (hall p hp)
  exact ⟨k, hk, m4 p hp k hk⟩
/-- each chaser goes to a place near -/
theorem gl_near {n : Nat} {ds : List (Int × Int)} {c : Nat} {cs g : List Nat} (hc : c = 1 ∨ c = 2) (hcs : cs ∈ cssF n c) (hg : g ∈ glF (arF n ds) cs) : g ∈ cssF n c ∧ g.length = cs.length ∧ ∀ (i p q : Nat), cs[i]? = some p → g[i]? = some q → q ∈ nearF n ds p := by
  obtain ⟨hl, hm⟩ := cssF_mem.mp hcs
  rcases hc with rfl | rfl
  · match cs, hl with
    | [x], _ =>
      have hx := hm x (by simp)
      obtain ⟨p, hp, rfl⟩ := glF_one.mp hg
      rw [arF_get hx] at hp
      refine ⟨css_one (nearF_mem.mp hp).1, rfl, fun i p' q' h1 h2 => ?_⟩
      cases i with
      | zero =>
        simp at h1 h2
        subst h1 h2
        exact hp
      | succ i => simp at h1
  · match cs, hl with
    | [x, y], _ =>
      have hx := hm x (by simp)
      have hy := hm y (by simp)
      obtain ⟨p, hp, q, hq, rfl⟩ := glF_two.mp hg
      rw [arF_get hx] at hp
      rw [arF_get hy] at hq
      refine ⟨css_two (nearF_mem.mp hp).1 (nearF_mem.mp hq).1, rfl, fun i p' q' h1 h2 => ?_⟩
      match i with
      | 0 =>
        simp at h1 h2
        subst h1 h2
        exact hp
      | 1 =>
        simp at h1 h2
        subst h1 h2
        exact hq
      | i + 2 => simp at h1
end CF

namespace CF
open PySem L2 PyProof.Rows
/-! ### folds, one behind the other: what is left, and where each place has gone -/
inductive Run (n : Nat) (ds : List (Int × Int)) : List Nat → (Nat → Nat) → Prop
  | nil : Run n ds (List.range n) id
  | fold {S : List Nat} {g : Nat → Nat} {p q : Nat} : Run n ds S g → p ∈ S → q ∈ S → covB n ds S p q = true → Run n ds (S.erase p) (fun x => if g x = p then q else g x)
/-- none can be folded -/
def Stiff (n : Nat) (ds : List (Int × Int)) (A : List Nat) : Prop := ∀ p ∈ A, ∀ q ∈ A, covB n ds A p q = false
section
variable {n : Nat} {ds : List (Int × Int)}
theorem cov_iff {S : List Nat} {p q : Nat} : covB n ds S p q = true ↔ q ≠ p ∧ ∀ o ∈ S, o < n → joinsB ds (p : Int) (o : Int) = true → joinsB ds (o : Int) (q : Int) = true := by
  unfold covB
  rw [Bool.and_eq_true, decide_eq_true_eq, List.all_eq_true]
  refine and_congr_right fun _ => ⟨fun h o ho hn hj => h o (List.mem_filter.mpr ⟨nearF_mem.mpr ⟨hn, hj⟩, decide_eq_true ho⟩), fun h o ho => ?_⟩
  obtain ⟨h1, h2⟩ := List.mem_filter.mp ho
  obtain ⟨h3, h4⟩ := nearF_mem.mp h1
  exact h o (of_decide_eq_true h2) h3 h4
structure RunOk (n : Nat) (ds : List (Int × Int)) (S : List Nat) (g : Nat → Nat) : Prop where
  nd : S.Nodup
  lt : ∀ x ∈ S, x < n
  into : ∀ x, x < n → g x ∈ S
  fix : ∀ x ∈ S, g x = x
  hom : ∀ x y, x < n → y < n → joinsB ds (x : Int) (y : Int) = true → joinsB ds (g x : Int) (g y : Int) = true
theorem Run.ok {S : List Nat} {g : Nat → Nat} (h : Run n ds S g) : RunOk n ds S g := by
  induction h with
  | nil => exact ⟨List.nodup_range, fun x hx => List.mem_range.mp hx, fun x hx => List.mem_range.mpr hx, fun _ _ => rfl, fun _ _ _ _ h => h⟩
  | @fold S g p q _ hp hq hc ih =>
    obtain ⟨hqp, hcov⟩ := cov_iff.mp hc
    refine ⟨ih.nd.erase _, fun x hx => ih.lt x (List.mem_of_mem_erase hx), fun x hx => ?_, fun x hx => ?_, fun x y hx hy hj => ?_⟩
    · show (if g x = p then q else g x) ∈ S.erase p
      split
      · exact (List.mem_erase_of_ne hqp).mpr hq
      · rename_i c
        exact (List.mem_erase_of_ne c).mpr (ih.into x hx)
    · show (if g x = p then q else g x) = x
      have hx' := List.mem_of_mem_erase hx
      rw [ih.fix x hx', if_neg]
      intro e
      subst e
      exact absurd hx ih.nd.not_mem_erase
    · show joinsB ds ((if g x = p then q else g x : Nat) : Int) ((if g y = p then q else g y : Nat) : Int) = true
      have hg := ih.hom x y hx hy hj
      by_cases c1 : g x = p
      · by_cases c2 : g y = p
        · rw [if_pos c1, if_pos c2]
          exact joins_refl _ _
        · rw [if_pos c1, if_neg c2, joinsB_comm]
          rw [c1] at hg
          exact hcov _ (ih.into y hy) (ih.lt _ (ih.into y hy)) hg
      · by_cases c2 : g y = p
        · rw [if_neg c1, if_pos c2]
          rw [c2, joinsB_comm] at hg
          exact hcov _ (ih.into x hx) (ih.lt _ (ih.into x hx)) hg
        · rw [if_neg c1, if_neg c2]
          exact hg
/-- what can't be folded stands still whichever way the others are folded -/
theorem run_id {A B : List Nat} {f g : Nat → Nat} (hA : Run n ds A f) (st : Stiff n ds A) (hB : Run n ds B g) : ∀ x ∈ A, f (g x) = x := by
  have oa := hA.ok
  induction hB with
  | nil => exact fun x hx => oa.fix x hx
  | @fold S g p q hr hp hq hc ih =>
    have ok := hr.ok
    obtain ⟨hqp, hcov⟩ := cov_iff.mp hc
    intro x hx
    show f (if g x = p then q else g x) = x
    by_cases c : g x = p
    · rw [if_pos c]
      refine Classical.byContradiction fun hne => ?_
      have hqn := ok.lt q hq
      have hz := oa.into q hqn
      have := st x hx (f q) hz
      rw [Bool.eq_false_iff] at this
      refine this (cov_iff.mpr ⟨hne, fun o ho hon hj => ?_⟩)
      have h1 := ok.hom x o (oa.lt x hx) hon hj
      rw [c] at h1
      have h2 := hcov _ (ok.into o hon) (ok.lt _ (ok.into o hon)) h1
      have h3 := oa.hom _ _ (ok.lt _ (ok.into o hon)) hqn h2
      rw [ih o ho] at h3
      exact h3
    · rw [if_neg c]
      exact ih x hx
theorem len_sub : ∀ {l B : List Nat}, l.Nodup → (∀ x ∈ l, x ∈ B) → l.length ≤ B.length
  | [], _, _, _ => Nat.zero_le _
  | a :: l, B, h, hs => by
    obtain ⟨h1, h2⟩ := List.nodup_cons.mp h
    have ha := hs a List.mem_cons_self
    have := len_sub (l := l) (B := B.erase a) h2 fun x hx => (List.mem_erase_of_ne (fun e : x = a => h1 (by rw [← e]; exact hx))).mpr (hs x (List.mem_cons_of_mem _ hx))
    rw [List.length_erase_of_mem ha] at this
    have := List.length_pos_of_mem ha
    rw [List.length_cons]
    omega
theorem nodup_map {α β : Type} {f : α → β} : ∀ {l : List α}, (∀ x ∈ l, ∀ y ∈ l, f x = f y → x = y) → l.Nodup → (l.map f).Nodup
  | [], _, _ => List.nodup_nil
  | a :: l, hi, h => by
    obtain ⟨h1, h2⟩ := List.nodup_cons.mp h
    rw [List.map_cons, List.nodup_cons]
    refine ⟨fun hm => ?_, nodup_map (fun x hx y hy => hi x (List.mem_cons_of_mem _ hx) y (List.mem_cons_of_mem _ hy)) h2⟩
    obtain ⟨y, hy, e⟩ := List.mem_map.mp hm
    have := hi y (List.mem_cons_of_mem _ hy) a List.mem_cons_self e
    exact h1 (this ▸ hy)
theorem run_le {A B : List Nat} {f g : Nat → Nat} (hA : Run n ds A f) (st : Stiff n ds A) (hB : Run n ds B g) : A.length ≤ B.length := by
  have hid := run_id hA st hB
  have := len_sub (l := A.map g) (B := B) (nodup_map (fun x hx y hy e => by rw [← hid x hx, ← hid y hy, e]) hA.ok.nd) fun x hx => by
    obtain ⟨y, hy, rfl⟩ := List.mem_map.mp hx
    exact hB.ok.into y (hA.ok.lt y hy)
  rw [List.length_map] at this
  exact this
/-- as many places are left, whichever are folded -/
theorem run_len {A B : List Nat} {f g : Nat → Nat} (hA : Run n ds A f) (sA : Stiff n ds A) (hB : Run n ds B g) (sB : Stiff n ds B) : A.length = B.length :=
  Nat.le_antisymm (run_le hA sA hB) (run_le hB sB hA)
/-- two left: from each place of the chaser there is one of the runner's from which the chase never ends -/
theorem run_free {A : List Nat} {f : Nat → Nat} (hA : Run n ds A f) (sA : Stiff n ds A) (h2 : 2 ≤ A.length) {c : Nat} (hc : c < n) : ∃ r, r < n ∧ ranksF n ds 1 [c] r = none := by
  have ok := hA.ok
  have stiff : ∀ r ∈ A, ∀ s ∈ A, s ≠ r → ∃ o ∈ A, o < n ∧ joinsB ds (r : Int) (o : Int) = true ∧ joinsB ds (s : Int) (o : Int) = false := fun r hr s hs hne => by
    refine Classical.byContradiction fun hno => ?_
    have := sA r hr s hs
    rw [Bool.eq_false_iff] at this
    refine this (cov_iff.mpr ⟨hne, fun o ho hon hj => ?_⟩)
    cases e : joinsB ds (o : Int) (s : Int) with
    | true => rfl
    | false =>
      rw [joinsB_comm] at e
      exact absurd ⟨o, ho, hon, hj, e⟩ hno
  have key : ∀ t c r, c < n → r ∈ A → joinsB ds (f c : Int) (r : Int) = false → lapN n ds 1 t [c] r = none := by
    intro t
    induction t with
    | zero =>
      intro c r hc hr hj
      cases e : lapN n ds 1 0 [c] r with
      | none => rfl
      | some k =>
        have h := (lap_zero (n := n) (ds := ds) (c := 1) (cs := [c]) (r := r)).mp (by rw [e]; rfl)
        have e2 : r = c := by simpa using h.2
        subst e2
        rw [ok.fix r hr, joins_refl] at hj
        cases hj
    | succ t ih =>
      intro c r hc hr hj
      cases e : lapN n ds 1 (t + 1) [c] r with
      | none => rfl
      | some k =>
        exfalso
        rcases lap_iff.mp (show (lapN n ds 1 (t + 1) [c] r).isSome = true by rw [e]; rfl) with h | ⟨_, hrn, g, hg, hb⟩
        · rw [ih c r hc hr hj] at h
          cases h
        · obtain ⟨c', hc', rfl⟩ := glF_one.mp hg
          rw [arF_get hc] at hc'
          obtain ⟨hcn, hcj⟩ := nearF_mem.mp hc'
          have hff := ok.hom c c' hc hcn hcj
          have hne : f c' ≠ r := fun e => by rw [e, hj] at hff; cases hff
          rcases behF_iff.mp hb with h | h
          · have e2 : r = c' := by simpa using h
            exact hne (by rw [← e2]; exact ok.fix r hr)
          · obtain ⟨o, ho, hon, hjo, hjs⟩ := stiff r hr (f c') (ok.into c' hcn) hne
            have := h o (nearF_mem.mpr ⟨hon, hjo⟩)
            rw [ih c' o hcn ho hjs] at this
            cases this
  have : ∃ r ∈ A, joinsB ds (f c : Int) (r : Int) = false := by
    obtain ⟨r0, hr0, hne⟩ : ∃ r0 ∈ A, r0 ≠ f c := by
      refine Classical.byContradiction fun hno => ?_
      have hall : ∀ x ∈ A, x ∈ [f c] := fun x hx => by
        rw [List.mem_singleton]
        exact Classical.byContradiction fun h => hno ⟨x, hx, h⟩
      have := len_sub ok.nd hall
      simp at this
      omega
    obtain ⟨o, ho, hon, _, hjs⟩ := stiff r0 hr0 (f c) (ok.into c hc) (fun e => hne e.symm)
    exact ⟨o, ho, hjs⟩
  obtain ⟨r, hr, hj⟩ := this
  exact ⟨r, ok.lt r hr, key _ c r hc hr hj⟩
/-- whoever stands where the runner has gone by the folds, catches -/
theorem run_lap {S : List Nat} {g : Nat → Nat} (h : Run n ds S g) : ∃ m, ∀ c r, c < n → r < n → joinsB ds (c : Int) (g r : Int) = true → (lapN n ds 1 m [c] r).isSome = true := by
  have ok := h.ok
  induction h with
  | nil =>
    refine ⟨1, fun c r hc hr hj => lap_iff.mpr (.inr ⟨css_one hc, hr, [r], glF_one.mpr ⟨r, ?_, rfl⟩, behF_iff.mpr (.inl (by simp))⟩)⟩
    rw [arF_get hc]
    exact nearF_mem.mpr ⟨hr, hj⟩
  | @fold S g p q hr hp hq hc ih =>
    obtain ⟨m, ih⟩ := ih hr.ok
    have ok0 := hr.ok
    obtain ⟨hqp, hcov⟩ := cov_iff.mp hc
    refine ⟨m + 1, fun c r hc hr hj => ?_⟩
    have hgn : (if g r = p then q else g r) < n := ok.lt _ (ok.into r hr)
    refine lap_iff.mpr (.inr ⟨css_one hc, hr, [if g r = p then q else g r], glF_one.mpr ⟨_, ?_, rfl⟩, behF_iff.mpr (.inr fun w hw => ?_)⟩)
    · rw [arF_get hc]
      exact nearF_mem.mpr ⟨hgn, hj⟩
    · obtain ⟨hwn, hwj⟩ := nearF_mem.mp hw
      refine ih _ w hgn hwn ?_
      have h1 := ok0.hom r w hr hwn hwj
      by_cases c1 : g r = p
      · rw [if_pos c1, joinsB_comm]
        rw [c1] at h1
        exact hcov _ (ok0.into w hwn) (ok0.lt _ (ok0.into w hwn)) h1
      · rw [if_neg c1]
        exact h1
/-- one left: from there each is caught -/
theorem run_one {S : List Nat} {g : Nat → Nat} (h : Run n ds S g) {a : Nat} (e : S = [a]) {r : Nat} (hr : r < n) : ranksF n ds 1 [a] r ≠ none := by
  obtain ⟨m, hm⟩ := run_lap h
  have ok := h.ok
  have hga : g r = a := by
    have := ok.into r hr
    rw [e, List.mem_singleton] at this
    exact this
  have han := ok.lt a (by rw [e]; simp)
  have h1 := hm a r han hr (by rw [hga]; exact joins_refl _ _)
  intro e2
  rw [rk_none.mp e2 m] at h1
  cases h1
/-! ### the program's folds are such -/
theorem foldP_none {rest : List Nat} (h : foldP n ds rest = none) : Stiff n ds rest := fun p hp q hq => by
  unfold foldP at h
  rw [List.findSome?_eq_none_iff] at h
  have h1 := h p hp
  rw [Option.map_eq_none_iff, List.find?_eq_none] at h1
  have := h1 q hq
  simpa using this
theorem foldsN_run : ∀ (k : Nat) {rest : List Nat} {g : Nat → Nat}, Run n ds rest g → rest.length ≤ k → ∃ g', Run n ds (foldsN n ds k rest).2 g' ∧ Stiff n ds (foldsN n ds k rest).2
  | 0, rest, g, h, hl => by
    have : rest = [] := List.length_eq_zero_iff.mp (by omega)
    subst this
    exact ⟨g, h, fun p hp => nomatch hp⟩
  | k + 1, rest, g, h, hl => by
    unfold foldsN
    cases e : foldP n ds rest with
    | none => exact ⟨g, h, foldP_none e⟩
    | some s =>
      obtain ⟨h1, h2, h3⟩ := foldP_mem e
      have := List.length_pos_of_mem h1
      exact foldsN_run k (h.fold h1 h2 h3) (by rw [List.length_erase_of_mem h1]; omega)
theorem foldsF_run : ∃ g, Run n ds (foldsF n ds).2 g ∧ Stiff n ds (foldsF n ds).2 := foldsN_run n .nil (by rw [List.length_range]; exact Nat.le_refl _)
/-! ### the best start -/
theorem worstF_none {L : Rk} {g : List Nat} : worstF n L g = none ↔ ∃ r, r < n ∧ L g r = none := by
  constructor
  · intro h
    refine Classical.byContradiction fun hno => ?_
    obtain ⟨M, m1, _⟩ := behAll L g (List.range n) 0 fun p hp => by
      cases e : L g p with
      | some k => rfl
      | none => exact absurd ⟨p, List.mem_range.mp hp, e⟩ hno
    unfold worstF at h
    rw [m1] at h
    cases h
  · rintro ⟨r, hr, h⟩
    exact behSome L g (List.range n) 0 ⟨r, List.mem_range.mpr hr, h⟩
theorem worstF_some {L : Rk} {g : List Nat} {t : Nat} (h : worstF n L g = some t) {r : Nat} (hr : r < n) : ∃ k, L g r = some k ∧ k ≤ t := by
  have hall : ∀ p ∈ List.range n, (L g p).isSome = true := fun p hp => by
    cases e : L g p with
    | some k => rfl
    | none => rw [worstF_none.mpr ⟨p, List.mem_range.mp hp, e⟩] at h; cases h
  obtain ⟨M, m1, m2, m3, m4⟩ := behAll L g (List.range n) 0 hall
  unfold worstF at h
  rw [m1] at h
  cases h
  obtain ⟨k, hk⟩ := Option.isSome_iff_exists.mp (hall r (List.mem_range.mpr hr))
  exact ⟨k, hk, m4 r (List.mem_range.mpr hr) k hk⟩
/-- one chaser is enough just where one place is left -/
theorem best_one {A : List Nat} {f : Nat → Nat} (hA : Run n ds A f) (sA : Stiff n ds A) (hn : 1 ≤ n) : bestF n ds 1 = none ↔ 1 < A.length := by
  constructor
  · intro h
    refine Classical.byContradiction fun hno => ?_
    have hpos : 0 < A.length := List.length_pos_of_mem (hA.ok.into 0 hn)
    obtain ⟨a, ha⟩ := List.length_eq_one_iff.mp (show A.length = 1 by omega)
    have han := hA.ok.lt a (by rw [ha]; simp)
    have := stStep_some (W := worstF n (ranksF n ds 1)) (cssF n 1) none (.inr ⟨[a], css_one han, ?_⟩)
    · unfold bestF at h
      rw [h] at this
      cases this
    · cases e : worstF n (ranksF n ds 1) [a] with
      | some k => rfl
      | none =>
        obtain ⟨r, hr, e2⟩ := worstF_none.mp e
        exact absurd e2 (run_one hA ha hr)
  · intro h
    cases e : bestF n ds 1 with
    | none => rfl
    | some gt =>
      obtain ⟨g, t⟩ := gt
      rcases stStep_mem _ _ g t e with e2 | ⟨hg, hw⟩
      · cases e2
      · obtain ⟨hl, hm⟩ := cssF_mem.mp hg
        match g, hl with
        | [c], _ =>
          obtain ⟨r, hr, e2⟩ := run_free hA sA h (hm c (by simp))
          rw [worstF_none.mpr ⟨r, hr, e2⟩] at hw
          cases hw
theorem best_rank {c : Nat} {g : List Nat} {t : Nat} (h : bestF n ds c = some (g, t)) : g ∈ cssF n c ∧ ∀ r, r < n → ∃ k, ranksF n ds c g r = some k ∧ k ≤ t := by
  rcases stStep_mem _ _ g t h with e | ⟨hg, hw⟩
  · cases e
  · exact ⟨hg, fun r hr => worstF_some hw hr⟩
end
end CF
namespace CF
open PySem L2 PyProof.Rows
/-! ### the law's own choices -/
def choP (n : Nat) (ds : List (Int × Int)) (rest : List Nat) (p : Nat) (l : List Nat) : List Nat := (l.filter (covB n ds rest p)).map fun _ => p
def choF (n : Nat) (ds : List (Int × Int)) (rest l : List Nat) : List Nat := (l.map fun p => choP n ds rest p rest).flatten
theorem choF_mem {n : Nat} {ds : List (Int × Int)} {rest : List Nat} {p : Nat} : p ∈ choF n ds rest rest ↔ p ∈ rest ∧ ∃ q ∈ rest, covB n ds rest p q = true := by
  unfold choF choP
  rw [List.mem_flatten]
  constructor
  · rintro ⟨l, hl, hp⟩
    obtain ⟨z, hz, rfl⟩ := List.mem_map.mp hl
    obtain ⟨q, hq, rfl⟩ := List.mem_map.mp hp
    obtain ⟨h1, h2⟩ := List.mem_filter.mp hq
    exact ⟨hz, q, h1, h2⟩
  · rintro ⟨hp, q, hq, h⟩
    exact ⟨_, List.mem_map.mpr ⟨p, hp, rfl⟩, List.mem_map.mpr ⟨q, List.mem_filter.mpr ⟨hq, h⟩, rfl⟩⟩
theorem choF_nil {n : Nat} {ds : List (Int × Int)} {rest : List Nat} (h : choF n ds rest rest = []) : Stiff n ds rest := fun p hp q hq => by
  cases e : covB n ds rest p q with
  | false => rfl
  | true =>
    have : p ∈ choF n ds rest rest := choF_mem.mpr ⟨hp, q, hq, e⟩
    rw [h] at this
    cases this
theorem choP_snoc {n : Nat} {ds : List (Int × Int)} {rest : List Nat} {p q : Nat} {l : List Nat} : choP n ds rest p (l ++ [q]) = if covB n ds rest p q = true then choP n ds rest p l ++ [p] else choP n ds rest p l := by
  unfold choP
  rw [List.filter_append]
  split
  · rename_i h
    simp [h]
  · rename_i h
    simp [h]
theorem choF_snoc {n : Nat} {ds : List (Int × Int)} {rest : List Nat} {p : Nat} {l : List Nat} : choF n ds rest (l ++ [p]) = choF n ds rest l ++ choP n ds rest p rest := by
  unfold choF
  simp
theorem choP_len {n : Nat} {ds : List (Int × Int)} {rest : List Nat} {p : Nat} {l : List Nat} : (choP n ds rest p l).length ≤ l.length := by
  unfold choP
  rw [List.length_map]
  exact List.length_filter_le _ _
theorem choF_len {n : Nat} {ds : List (Int × Int)} {rest : List Nat} : ∀ l : List Nat, (choF n ds rest l).length ≤ l.length * rest.length
  | [] => by simp [choF]
  | p :: l => by
    have ih := choF_len (n := n) (ds := ds) (rest := rest) l
    have h1 := choP_len (n := n) (ds := ds) (rest := rest) (p := p) (l := rest)
    have e : choF n ds rest (p :: l) = choP n ds rest p rest ++ choF n ds rest l := by
      unfold choF
      simp
    rw [e, List.length_append, List.length_cons, Nat.succ_mul]
    omega
def spChoices : Sp := fun vs H Q _ => ∃ (F : Hp) (n : Nat) (v : V) (ds : List (Int × Int)) (l : Addr) (rest : List Nat), vs = [nv n, v, .ref l] ∧ Same F H ∧ PairL F v ds ∧ n ≤ 6 ∧ H l = some (.lst (rest.map nv)) ∧ rest.length ≤ 100 ∧ (∀ p ∈ rest, p < n) ∧
  ∀ F' H' u, Grow F H F' H' → NatL F' u (choF n ds rest rest) → Q u H'
end CF


namespace CF
open PySem L2
def top (i : Nat) : Stmt := PySem.Challenge.pw_chasefloor_k05_whole_chased_by_plan.main.body.getD i (.Pass ⟨0, 0, 0, 0⟩)
abbrev s_is_standing : Stmt := top 8
abbrev s_asked_standing : Stmt := top 9
abbrev s_around_of : Stmt := top 10
abbrev s_goings : Stmt := top 11
abbrev s_behind : Stmt := top 12
abbrev s_more_of : Stmt := top 13
abbrev s_all_ranks : Stmt := top 14
abbrev s_rank : Stmt := top 15
abbrev s_asked_free : Stmt := top 17
abbrev s_chase_step : Stmt := top 18
abbrev s_flight_step : Stmt := top 19
abbrev s_all_reached : Stmt := top 22
abbrev s_init : Stmt := inClass (top 23) 0
abbrev s_near : Stmt := inClass (top 23) 1
abbrev s_joins : Stmt := inClass (top 23) 2
abbrev s_law_cell_at : Stmt := top 25
abbrev s_law_whole : Stmt := top 26
abbrev s_law_numbers_like : Stmt := top 27
abbrev s_law_floor_by : Stmt := top 28
abbrev s_law_near : Stmt := top 29
abbrev s_law_standing_by : Stmt := top 30
abbrev s_law_other : Stmt := top 31
abbrev s_law_told : Stmt := top 32
abbrev s_law_goes : Stmt := top 33
abbrev s_law : Stmt := top 34
end CF
namespace CF
open PySem L2 PyProof.Rows
section
variable {P : Program} {w : World} {K : PySem.W.Frag} {mg : Str → Option Value} {base : Heap}
theorem sc_cell : FnScope ["script", "k"] ["script", "k"] (defScope s_law_cell_at) := ⟨rfl, rfl, rfl, by decide +kernel, rfl, by decide +kernel, by decide +kernel⟩
theorem ok_cell {f : Addr} {fd : FuncData} (F : Fun K "_law_cell_at" "_law_cell_at" s_law_cell_at f fd) (ml : mg "len" = none) : FnOk P w K mg base CX0 1 f fd ["script", "k"] (spCell K) := by
  refine F.ok sc_cell (fun vs H Q E h => ?_) (fun cdv A outer s H vs Q E hr h => ?_)
  · obtain ⟨a, sc, k, rfl, _⟩ := h
    rfl
  · obtain ⟨a, sc, k, rfl, ⟨ha, hl⟩, hk, q⟩ := h
    refine ⟨_, pss_cons (ps_if (pt_cmpR op_lt (pv 1) (pe_callB call_len_seq (by rfl) ml PySem.boot_len (pa_cons (pv 0) pa_nil)) (nomark _))
      (pss_one (ps_ret (pe_ix (r := rIxL K) ix_list (pv 0) (pv 1) (fun _ _ => rfl)))) pss_nil) (pss_one (ps_ret pe_int)), ?_⟩
    have el : (intsV sc).length = sc.length := by simp [intsV]
    refine ⟨_, rfl, _, rfl, a, _, rfl, .inl (ha), _, _, rfl, rfl, _, rfl, ?_⟩
    rw [el]
    by_cases c : k < (sc.length : Int)
    · refine iteDT c ⟨_, rfl, _, rfl, a, _, k, .int (cellF sc k), rfl, rfl, ha, ?_, q⟩
      have h1 : k.toNat < sc.length := by omega
      have h2 : (intsV sc)[k.toNat]? = some (.int (cellF sc k)) := by
        unfold intsV cellF
        rw [List.getElem?_map, List.getElem?_eq_getElem h1]
        simp [h1]
      have h3 := atI_nat h2
      rwa [show ((k.toNat : Nat) : Int) = k by omega] at h3
    · refine iteDF c ?_
      have e : cellF sc k = 0 := by
        unfold cellF
        rw [List.getD_eq_getElem?_getD, List.getElem?_eq_none (by omega)]
        rfl
      rw [e] at q
      exact q
end
end CF

namespace CF
open PySem L2 PyProof.Rows
section
variable {P : Program} {w : World} {K : PySem.W.Frag} {mg : Str → Option Value} {base : Heap}
abbrev NF : List Str := ["script", "most", "places", "doors", "place", "k", "one", "other", "found", "low", "high"]
theorem sc_lfloor : FnScope NF ["script", "most"] (defScope s_law_floor_by) := ⟨rfl, rfl, rfl, by decide +kernel, rfl, by decide +kernel, by decide +kernel⟩
theorem ok_lfloor {f : Addr} {fd : FuncData} (F : Fun K "_law_floor_by" "_law_floor_by" s_law_floor_by f fd) (mr : mg "range" = none) (mn : mg "min" = none) (mx : mg "max" = none) (ms : mg "sorted" = none)
    (CE : Cal P w K mg base 1 "_law_cell_at" ["script", "k"] (spCell K)) : FnOk P w K mg base CX0 2 f fd ["script", "most"] (spLFloor K) := by
  refine F.ok sc_lfloor (fun vs H Q E h => ?_) (fun cdv A outer s H vs Q E hr h => ?_)
  · obtain ⟨F, a, sc, most, rfl, _⟩ := h
    rfl
  · obtain ⟨G, a, sc, most, rfl, hG, hsc, hm3, hm6, k⟩ := h
    have hu := hr.units
    have hu1 := hu_of hr
    have nd := sc_lfloor.nd
    refine ⟨_, pss_cons (ps_set (i := 2) nd rfl (.inr rfl) (pe_op op_add pe_int (pe_op op_mod (pe_cl CE hr rfl (pa_cons (pv 0) (pa_cons pe_int pa_nil))) (pv 1))))
      (pss_cons (ps_set (i := 3) nd rfl (.inl rfl) pe_dnewT)
      (pss_cons (ps_cut (ps_for PassesOwn.never rfl (pi_range2 rfl mr (pa_cons pe_int (pa_cons (pv 2) pa_nil))) (pg_name (i := 4) nd rfl (.inl rfl))
        (pss_one (ps_dput hu1 (pv 3) (pe_tup (pa_cons (pe_op op_mod (pe_cl CE hr rfl (pa_cons (pv 0) (pa_cons (pv 4) pa_nil))) (pv 4)) (pa_cons (pv 4) pa_nil))) pe_bl rfl))))
      (pss_cons (ps_cut (ps_for PassesOwn.never rfl (pi_range1 rfl mr (pa_cons (pe_op op_mod (pe_cl CE hr rfl (pa_cons (pv 0) (pa_cons pe_int pa_nil))) pe_int) pa_nil)) (pg_name (i := 5) nd rfl (.inl rfl))
        (pss_cons (ps_set (i := 6) nd rfl (.inl rfl) (pe_op op_mod (pe_cl CE hr rfl (pa_cons (pv 0) (pa_cons (pe_op op_add pe_int (pe_op op_mul pe_int (pv 5))) pa_nil))) (pv 2)))
        (pss_cons (ps_set (i := 7) nd rfl (.inl rfl) (pe_op op_mod (pe_cl CE hr rfl (pa_cons (pv 0) (pa_cons (pe_op op_add pe_int (pe_op op_mul pe_int (pv 5))) pa_nil))) (pv 2)))
        (pss_one (ps_if (pt_cmpR op_ne (pv 6) (pv 7) (nomark _))
          (pss_one (ps_dput hu1 (pv 3) (pe_tup (pa_cons (pe_callB (call_min2 rfl) (by rfl) mn (by decide +kernel) (pa_cons (pv 6) (pa_cons (pv 7) pa_nil))) (pa_cons (pe_callB (call_max2 rfl) (by rfl) mx (by decide +kernel) (pa_cons (pv 6) (pa_cons (pv 7) pa_nil))) pa_nil))) pe_bl rfl)) pss_nil))))))
      (pss_cons (ps_set (i := 8) nd rfl (.inl rfl) (pe_callB (cr_srtD rfl) (by rfl) ms PyProof.Rows.boot_sorted (pa_cons (pv 3) pa_nil)))
      (pss_cons (ps_cut (ps_if (pt_cmpR op_eq (pe_op op_mod (pe_cl CE hr rfl (pa_cons (pv 0) (pa_cons pe_int pa_nil))) pe_int) pe_int (nomark _))
        (pss_one (ps_set (i := 8) nd rfl (.inl rfl) (pe_callB cr_srtL (by rfl) ms PyProof.Rows.boot_sorted (pa_cons
          (pe_lc (own := [("low", 9), ("high", 10)]) (g := gTup K 2 (gCons (gName 9) (gCons (gName 10) gNil))) (tt := tYes) rfl nd (pi_list (pv 8)) (blkOk_by (N := NF) (sc := defScope s_law_floor_by) (by decide +kernel))
            (fun _ _ _ _ _ => pg_tup rfl (pgs_cons (pg_name (i := 9) nd rfl (.inl rfl)) (pgs_cons (pg_name (i := 10) nd rfl (.inl rfl)) pgs_nil))) (fun _ _ _ _ _ => pts_nil)
            (fun _ _ _ _ _ => pe_tup (pa_cons (pe_op op_sub (pe_op op_sub (pv 2) pe_int) (pv 10)) (pa_cons (pe_op op_sub (pe_op op_sub (pv 2) pe_int) (pv 9)) pa_nil)))) pa_nil)))) pss_nil))
      (pss_cons (ps_cut (ps_if (pt_cmpR op_eq (pe_op op_mod (pe_op op_fdiv (pe_cl CE hr rfl (pa_cons (pv 0) (pa_cons pe_int pa_nil))) pe_int) pe_int) pe_int (nomark _))
        (pss_cons (ps_set (i := 2) nd rfl (.inr rfl) (pe_callB (call_max2 rfl) (by rfl) mx (by decide +kernel) (pa_cons pe_int (pa_cons (pv 2) pa_nil))))
        (pss_one (ps_set (i := 8) nd rfl (.inl rfl) (pe_callB cr_srtL (by rfl) ms PyProof.Rows.boot_sorted (pa_cons (pe_op op_cat
          (pe_lc (own := [("k", 5)]) (g := gName 5) (tt := tYes) rfl nd (pi_range1 rfl mr (pa_cons (pe_op op_sub (pv 2) pe_int) pa_nil)) (blkOk_by (N := NF) (sc := defScope s_law_floor_by) (by decide +kernel))
            (fun _ _ _ _ _ => pg_name (i := 5) nd rfl (.inl rfl)) (fun _ _ _ _ _ => pts_nil) (fun _ _ _ _ _ => pe_tup (pa_cons (pv 5) (pa_cons (pe_op op_add (pv 5) pe_int) pa_nil))))
          (pe_lst (pa_cons (pe_tup (pa_cons pe_int (pa_cons (pe_op op_sub (pv 2) pe_int) pa_nil))) pa_nil))) pa_nil))))) pss_nil))
      (pss_one (ps_ret (pe_tup (pa_cons (pv 2) (pa_cons (pv 8) pa_nil))))))))))), ?_⟩
    have hsc0 := hsc.ext hG
    -- places, doors
    refine ⟨_, rfl, a, sc, 0, rfl, hsc0, by decide, _, rfl, _, _, rfl, rfl, by omega, _, _, rfl, rfl, ?_⟩
    obtain ⟨n0, hn0, hn0'⟩ := emod_nat (cellF sc 0) (n := most) (by omega)
    rw [hn0]
    obtain ⟨n, hn⟩ : ∃ n : Nat, n = 1 + n0 := ⟨_, rfl⟩
    have hn1 : 1 ≤ n := by omega
    have hnm : n ≤ most := by omega
    subst hn
    refine (show gName 2 (nv (1 + n0)) _ _ _ from ?_)
    generalize 1 + n0 = n at hn1 hnm
    clear hn0 hn0'
    intro kd hkd
    have Hk0 : H kd = none := hkd
    have Fk0 : G kd = none := hG.free hkd
    have g0 : Grow G H G (upd H kd (.dT [])) := (Grow.refl hG).hid _ hkd
    have hk0 : (upd H kd (.dT [])) kd = some (.dT (pD [])) := upd_same
    generalize upd H kd (.dT []) = H0 at g0 hk0
    -- for place in range(1, places)
    refine ⟨fun σ H' => ∃ (ps : List (Int × Int)) (o4 : Option V), σ = [some (.ref a), some (nv most), some (nv n), some (.ref kd), o4, none, none, none, none, none, none] ∧ Grow G H G H' ∧ H' kd = some (.dT (pD ps)) ∧ ps.Nodup ∧ ValP n ps ∧ Tree n ps ∧ ps.length ≤ 6, ?_, ?_⟩
    · refine ⟨_, rfl, 1, (n : Int), rfl, ⟨by omega, by omega, by omega, by omega⟩, for_range (lo := 1) (n := ((n : Int) - 1).toNat) (fun i σ H' => ∃ (ps : List (Int × Int)) (o4 : Option V), σ = [some (.ref a), some (nv most), some (nv n), some (.ref kd), o4, none, none, none, none, none, none] ∧
          Grow G H G H' ∧ H' kd = some (.dT (pD ps)) ∧ ps.Nodup ∧ ValP n ps ∧ Tree (i + 1) ps ∧ ps.length ≤ i)
        ⟨[], _, rfl, g0, hk0, List.nodup_nil, (fun p hp => by cases hp), (fun q h1 h2 => by omega), Nat.le_refl _⟩ ?_ ?_⟩
      · rintro i σ H1 hi ⟨ps, o4, rfl, g1, hk1, hnd, hv, ht, hl⟩
        obtain ⟨m, hm, hm'⟩ := emod_nat (cellF sc (1 + i)) (n := i + 1) (by omega)
        rw [show (((i + 1 : Nat)) : Int) = 1 + (i : Int) by omega] at hm
        refine ⟨_, rfl, _, rfl, _, rfl, a, sc, _, rfl, hsc.ext g1.sub, by omega, _, rfl, _, _, rfl, rfl, by omega, _, rfl, (by show 2 ≤ sizeLine; decide), fun t ht' => ?_⟩
        have g2 := g1.hid (.tup [.int (cellF sc (1 + (i : Int)) % (1 + (i : Int))), .int (1 + (i : Int))]) ht'
        have hk2 : (upd H1 t (.tup [.int (cellF sc (1 + (i : Int)) % (1 + (i : Int))), .int (1 + (i : Int))])) kd = some (.dT (pD ps)) := by rw [upd_ne (ne_of_none hk1 ht')]; exact hk1
        refine ⟨kd, _, rfl, DPut.t (k := kyP (cellF sc (1 + (i : Int)) % (1 + (i : Int)), 1 + (i : Int))) hk2 upd_same (by rw [pD_len, sizeLine_eq]; omega), ?_⟩
        rw [pD_put]
        refine ⟨_, _, rfl, g2.mut _ Fk0 Hk0, upd_same, addP_nodup hnd _, hv.add (by show (0 : Int) ≤ cellF sc (1 + (i : Int)) % (1 + (i : Int)); omega) (by show cellF sc (1 + (i : Int)) % (1 + (i : Int)) < 1 + i; omega) (by show (1 : Int) + i < n; omega), fun q h1 h2 => ?_, by have := addP_len ps (cellF sc (1 + (i : Int)) % (1 + (i : Int)), 1 + (i : Int)); omega⟩
        by_cases e : q = 1 + i
        · exact ⟨_, addP_mem _ _, e.symm, by show (0 : Int) ≤ cellF sc (1 + (i : Int)) % (1 + (i : Int)); omega, by show cellF sc (1 + (i : Int)) % (1 + (i : Int)) < q; omega⟩
        · obtain ⟨p, hp, r⟩ := ht q h1 (by omega)
          exact ⟨p, addP_sub _ _ _ hp, r⟩
      · rintro σ H1 ⟨ps, o4, rfl, g1, hk1, hnd, hv, ht, hl⟩
        exact ⟨ps, _, rfl, g1, hk1, hnd, hv, (by rw [show ((n : Int) - 1).toNat + 1 = n by omega] at ht; exact ht), by omega⟩
    rintro σ H1 ⟨ps, o4, rfl, g1, hk1, hnd, hv, ht, hl⟩
    -- for k in range(..)
    refine ⟨fun σ H' => ∃ (ps : List (Int × Int)) (o4 o5 o6 o7 : Option V), σ = [some (.ref a), some (nv most), some (nv n), some (.ref kd), o4, o5, o6, o7, none, none, none] ∧ Grow G H G H' ∧ H' kd = some (.dT (pD ps)) ∧ ps.Nodup ∧ ValP n ps ∧ Tree n ps ∧ ps.length ≤ 14, ?_, ?_⟩
    · obtain ⟨m, hm, hm'⟩ := emod_nat (cellF sc 6) (n := 8) (by omega)
      have hm : cellF sc 6 % 8 = (m : Int) := hm
      refine ⟨_, rfl, a, sc, 6, rfl, hsc.ext g1.sub, by decide, _, _, rfl, rfl, (by show (0 : Int) < 8; decide), cellF sc 6 % 8, rfl, by omega, by omega, for_range (lo := 0) (n := (cellF sc 6 % 8).toNat) (fun i σ H' => ∃ (ps : List (Int × Int)) (o4 o5 o6 o7 : Option V), σ = [some (.ref a), some (nv most), some (nv n), some (.ref kd), o4, o5, o6, o7, none, none, none] ∧ Grow G H G H' ∧ H' kd = some (.dT (pD ps)) ∧ ps.Nodup ∧ ValP n ps ∧ Tree n ps ∧ ps.length ≤ 6 + i)
        ⟨ps, _, _, _, _, rfl, g1, hk1, hnd, hv, ht, hl⟩ ?_ ?_⟩
      · rintro i σ H2 hi ⟨qs, p4, p5, p6, p7, rfl, g2, hk2, hnd2, hv2, ht2, hl2⟩
        rw [Int.zero_add]
        obtain ⟨x, hx, hx'⟩ := emod_nat (cellF sc (7 + 2 * (i : Int))) hn1
        obtain ⟨y, hy, hy'⟩ := emod_nat (cellF sc (8 + 2 * (i : Int))) hn1
        refine ⟨_, rfl, _, rfl, _, _, rfl, rfl, .inl ⟨by decide, by decide⟩, _, _, rfl, rfl, a, sc, _, rfl, hsc.ext g2.sub, by omega, _, rfl, _, _, rfl, rfl, by omega, ?_⟩
        refine (show gName 6 (V.int (cellF sc (7 + 2 * (i : Int)) % (n : Int))) _ _ _ from ?_)
        rw [hx]
        refine ⟨_, rfl, _, rfl, _, _, rfl, rfl, .inl ⟨by decide, by decide⟩, _, _, rfl, rfl, a, sc, _, rfl, hsc.ext g2.sub, by omega, _, rfl, _, _, rfl, rfl, by omega, ?_⟩
        refine (show gName 7 (V.int (cellF sc (8 + 2 * (i : Int)) % (n : Int))) _ _ _ from ?_)
        rw [hy]
        refine ⟨_, rfl, _, rfl, rfl, _, rfl, ?_⟩
        by_cases c : (x : Int) = (y : Int)
        · refine iteNF (by rw [c]) ?_
          exact ⟨qs, _, _, _, _, rfl, g2, hk2, hnd2, hv2, ht2, by omega⟩
        · refine iteNT (fun z => c (V.int.inj z)) ?_
          refine ⟨_, rfl, _, rfl, _, rfl, _, _, rfl, _, rfl, _, rfl, _, _, rfl, (by show 2 ≤ sizeLine; decide), fun t ht' => ?_⟩
          have g3 := g2.hid (.tup [.int (mnI x y), .int (mxI x y)]) ht'
          have hk3 : (upd H2 t (.tup [.int (mnI x y), .int (mxI x y)])) kd = some (.dT (pD qs)) := by rw [upd_ne (ne_of_none hk2 ht')]; exact hk2
          refine ⟨kd, _, rfl, DPut.t (k := kyP (mnI x y, mxI x y)) hk3 upd_same (by rw [pD_len, sizeLine_eq]; omega), ?_⟩
          rw [pD_put]
          have hmm : 0 ≤ mnI x y ∧ mnI x y < mxI x y ∧ mxI x y < (n : Int) := by
            unfold mnI mxI
            split <;> split <;> omega
          refine ⟨_, _, _, _, _, rfl, g3.mut _ Fk0 Hk0, upd_same, addP_nodup hnd2 _, hv2.add hmm.1 hmm.2.1 hmm.2.2, ht2.mono (addP_sub _ _), by have := addP_len qs (mnI x y, mxI x y); omega⟩
      · rintro σ H2 ⟨qs, p4, p5, p6, p7, rfl, g2, hk2, hnd2, hv2, ht2, hl2⟩
        exact ⟨qs, _, _, _, _, rfl, g2, hk2, hnd2, hv2, ht2, by omega⟩
    rintro σ H2 ⟨qs, p4, p5, p6, p7, rfl, g2, hk2, hnd2, hv2, ht2, hl2⟩
    -- found = sorted(doors)
    refine ⟨_, rfl, kd, pD qs, qs, rfl, .inl hk2, pD_keys qs, fun ys rs fl h1 h2 h3 h4 => ?_⟩
    obtain ⟨F3, g3, s3, h5⟩ := grow_prs g2 (prsV_of h3)
    have fl3 := FloOk.of hn1 (by omega) h1 h2 hnd2 hv2 ht2.conn (by omega)
    have g4 := g3.alloc (.lst ys) h4
    have hpl : PairL (upd F3 fl (.lst ys)) (.ref fl) rs := ⟨fl, ys, rfl, upd_same, paired_ext (fun _ _ h => h.ext (same_new _ (g3.sub.free h4))) h5⟩
    generalize upd H2 fl (.lst ys) = H4 at g4
    generalize upd F3 fl (.lst ys) = F4 at g4 hpl
    clear h1 h2 h3 h5 g3 s3 hnd2 hv2 ht2 hl2 hk2 g2 hk1 hnd hv ht hl g1 g0 hk0
    -- turned about
    refine ⟨fun σ H' => ∃ (F : Hp) (fv : V) (ds : List (Int × Int)) (o4 o5 o6 o7 o9 o10 : Option V), σ = [some (.ref a), some (nv most), some (nv n), some (.ref kd), o4, o5, o6, o7, some fv, o9, o10] ∧ Grow G H F H' ∧ PairL F fv ds ∧ FloOk n ds, ?_, ?_⟩
    · refine ⟨_, rfl, a, sc, 23, rfl, (hsc.ext g4.ss).ext g4.sub, by decide, _, _, rfl, rfl, (by show (0 : Int) < 2; decide), rfl, _, rfl, ?_⟩
      by_cases c : V.int (cellF sc 23 % 2) = V.int 1
      case neg => exact iteDF c ⟨F4, _, rs, _, _, _, _, _, _, rfl, g4, hpl, fl3⟩
      refine iteDT c ?_
      obtain ⟨fl', ys', e, hfl, hps⟩ := hpl
      cases e
      refine ⟨_, rfl, fl, rfl, ⟨ys', SqL.of (g4.sub _ _ hfl)⟩, fun D hD => ?_⟩
      have hyl := paired_len hps
      refine lcv_list (xs := ys') PairT (fun i => (rs[i]?).map (revP n)) (fun _ _ _ _ e h => h.ext e) g4.sub (SqL.of hfl) hD (by have := fl3.len; rw [sizeLine_eq]; omega) (fun j x F' H' hj g hFD ho Q' q => ?_) fun F5 H5 ws g5 w1 w2 => ?_
      · obtain ⟨p, hp, t, rfl, ht⟩ := paired_get' hps hj
        refine cs_yesP (p := p) (g.sub _ _ (g.ss _ _ ht)) ?_
        refine ⟨_, rfl, _, _, rfl, rfl, _, rfl, _, _, rfl, rfl, _, rfl, _, _, rfl, rfl, _, rfl, _, _, rfl, rfl, (by show 2 ≤ sizeLine; decide), fun t2 ht2 => ?_⟩
        exact q _ _ (some (.ref t2)) ((Grow.refl g.sub).alloc _ ht2) (by rw [hp]; exact ⟨t2, rfl, upd_same⟩)
      · rw [hyl, made_get] at w2
        refine ⟨D, ws, _, rfl, SqL.of (g5.sub _ _ w1), prsV_of (paired_ext (fun _ _ h => h.ext g5.sub) w2), fun ys2 qs2 fl2 k1 k2 k3 k4 => ?_⟩
        obtain ⟨F6, g6, s6, k5⟩ := grow_prs (g4.trans g5) (prsV_of k3)
        exact ⟨_, _, qs2, _, _, _, _, _, _, rfl, g6.alloc (.lst ys2) k4, ⟨fl2, ys2, rfl, upd_same, paired_ext (fun _ _ h => h.ext (same_new _ (g6.sub.free k4))) k5⟩, FloOk.of hn1 (by omega) k1 k2 (rev_nodup fl3.nd) fl3.val.rev fl3.con.rev (by rw [List.length_map]; exact fl3.len)⟩
    rintro σ H5 ⟨F5, fv, ds, o4, o5, o6, o7, o9, o10, rfl, g5, hpl5, fl5⟩
    -- a ring
    refine ⟨fun σ H' => ∃ (F : Hp) (n : Nat) (fv : V) (ds : List (Int × Int)) (o4 o5 o6 o7 o9 o10 : Option V), σ = [some (.ref a), some (nv most), some (nv n), some (.ref kd), o4, o5, o6, o7, some fv, o9, o10] ∧ Grow G H F H' ∧ PairL F fv ds ∧ FloOk n ds ∧ n ≤ most, ?_, ?_⟩
    · refine ⟨_, rfl, a, sc, 23, rfl, (hsc.ext g5.ss).ext g5.sub, by decide, _, _, rfl, rfl, (by show (0 : Int) < 2 ∧ (2 : Int) < 1073741824; decide), _, _, rfl, rfl, (by show (0 : Int) < 6; decide), rfl, _, rfl, ?_⟩
      by_cases c : V.int (cellF sc 23 / 2 % 6) = V.int 1
      case neg => exact iteDF c ⟨F5, n, _, ds, _, _, _, _, _, _, rfl, g5, hpl5, fl5, hnm⟩
      refine iteDT c ?_
      refine ⟨_, rfl, _, _, rfl, ?_⟩
      obtain ⟨m, hm, hm3⟩ : ∃ m : Nat, (if (n : Int) > 3 then (n : Int) else 3) = (m : Int) ∧ 3 ≤ m ∧ m ≤ most := by
        by_cases c : (n : Int) > 3
        · exact ⟨n, by rw [if_pos c], by omega, hnm⟩
        · exact ⟨3, by rw [if_neg c]; rfl, by omega, hm3⟩
      rw [hm]
      refine ⟨_, rfl, _, _, rfl, rfl, _, rfl, by omega, by omega, fun D hD => ?_⟩
      have em : ((m : Int) - 1).toNat = m - 1 := by omega
      refine lcv_range (n := ((m : Int) - 1).toNat) PairT (fun (i : Nat) => some ((i : Int), (i : Int) + 1)) (fun _ _ _ _ e h => h.ext e) g5.sub hD (by rw [sizeLine_eq]; omega) (fun i F' H' hi g hFD ho Q' q => ?_) fun F6 H6 ws g6 w1 w2 => ?_
      · rw [Int.zero_add]
        exact cs_yes ⟨_, rfl, _, rfl, _, _, rfl, rfl, (by show 2 ≤ sizeLine; decide), fun t ht => q _ _ (some (.ref t)) ((Grow.refl g.sub).alloc _ ht) ⟨t, rfl, upd_same⟩⟩
      rw [made_some, em] at w2
      have hwl := paired_len w2
      rw [List.length_map, List.length_range] at hwl
      refine ⟨_, rfl, _, _, rfl, rfl, (by show 2 ≤ sizeLine; decide), fun t ht => ⟨(by show 1 ≤ sizeLine; decide), fun l1 hl1 => ?_⟩⟩
      have g7 := ((g5.trans g6).alloc (.tup [.int 0, .int ((m : Int) - 1)]) ht).alloc (.lst [.ref t]) hl1
      have s7 : Same F6 (upd (upd F6 t (.tup [.int 0, .int ((m : Int) - 1)])) l1 (.lst [.ref t])) := (same_new _ (g6.sub.free ht)).trans (same_new _ (((g5.trans g6).alloc (.tup [.int 0, .int ((m : Int) - 1)]) ht).sub.free hl1))
      refine ⟨D, l1, ws, [.ref t], rfl, rfl, g7.sub _ _ (s7 _ _ w1), upd_same, by rw [sizeLine_eq]; simp; omega, fun l2 hl2 => ?_⟩
      have g8 := g7.alloc (.lst (ws ++ [.ref t])) hl2
      have ntl : t ≠ l1 := ne_of_none upd_same hl1
      have s8 := same_new (.lst (ws ++ [.ref t])) (g7.sub.free hl2)
      refine ⟨l2, ws ++ [.ref t], ringP m, rfl, SqL.of upd_same, prsV_of (paired_app (paired_ext (fun _ _ h => h.ext (s7.trans (s8.trans g8.sub))) w2) (.cons ⟨t, rfl, ?_⟩ .nil)), fun ys2 qs2 fl2 k1 k2 k3 k4 => ?_⟩
      · exact (s8.trans g8.sub) _ _ (by rw [upd_ne ntl]; exact upd_same)
      · obtain ⟨F9, g9, s9, k5⟩ := grow_prs g8 (prsV_of k3)
        refine ⟨_, m, _, qs2, _, _, _, _, _, _, rfl, g9.alloc (.lst ys2) k4, ⟨fl2, ys2, rfl, upd_same, paired_ext (fun _ _ h => h.ext (same_new _ (g9.sub.free k4))) k5⟩, FloOk.of (by omega) (by omega) k1 k2 (ring_nodup hm3.1) (ring_val hm3.1) ring_tree.conn (by unfold ringP; simp; omega), hm3.2⟩
    rintro σ H6 ⟨F6, m, fw, es, o4, o5, o6, o7, o9, o10, rfl, g6, hpl6, fl6, hm⟩
    refine ⟨_, rfl, _, rfl, (by show 2 ≤ sizeLine; decide), fun t ht => ?_⟩
    exact k _ _ m es t _ (g6.alloc (.tup [nv m, fw]) ht) fl6 hm upd_same (hpl6.ext (same_new _ (g6.sub.free ht)))
end
end CF

namespace CF
open PySem L2 PyProof.Rows
section
variable {P : Program} {w : World} {K : PySem.W.Frag} {mg : Str → Option Value} {base : Heap}
theorem sc_reached : FnScope ["places", "doors", "reached", "lap", "one", "other"] ["places", "doors"] (defScope s_all_reached) := ⟨rfl, rfl, rfl, by decide +kernel, rfl, by decide +kernel, by decide +kernel⟩
theorem ok_reached {f : Addr} {fd : FuncData} (F : Fun K "all_reached" "all_reached" s_all_reached f fd) (mr : mg "range" = none) (ml : mg "len" = none) : FnOk P w K mg base CX0 1 f fd ["places", "doors"] spReached := by
  refine F.ok sc_reached (fun vs H Q E h => ?_) (fun cdv A outer s H vs Q E hr h => ?_)
  · obtain ⟨F, n, v, ds, rfl, _⟩ := h
    rfl
  · obtain ⟨G, n, v, ds, rfl, hG, hds, hn, hlen, k⟩ := h
    have hu := hu_of hr
    obtain ⟨a, ys, rfl, ha, hys⟩ := hds
    refine ⟨_, pss_cons (ps_set (i := 2) sc_reached.nd rfl (.inl rfl) (pe_disp (pps_cons pe_int pe_bl pps_nil) (by rfl) (by rfl) (fun z => by cases z) (by decide)))
      (pss_cons (ps_for PassesOwn.never rfl (pi_range1 rfl mr (pa_cons (pv 0) pa_nil)) (pg_name (i := 3) sc_reached.nd rfl (.inl rfl))
        (pss_one (ps_for PassesOwn.never rfl (pi_list (pv 1)) (pg_tup rfl (pgs_cons (pg_name (i := 4) sc_reached.nd rfl (.inl rfl)) (pgs_cons (pg_name (i := 5) sc_reached.nd rfl (.inl rfl)) pgs_nil)))
          (pss_one (ps_if (PW.pt (pw_or (pt_cmp (pc_din hu (pv 4) (pv 2))) (pw_or1 (pt_cmp (pc_din hu (pv 5) (pv 2))))))
            (pss_cons (ps_dput hu (pv 2) (pv 4) pe_bl rfl) (pss_one (ps_dput hu (pv 2) (pv 5) pe_bl rfl))) pss_nil)))))
      (pss_one (ps_ret (pe_cmpR op_eq (pe_callB call_lenD (by rfl) ml PySem.boot_len (pa_cons (pv 2) pa_nil)) (pv 0) (nomark _))))), ?_⟩
    -- reached = {0: True}
    intro d hd
    refine ⟨upd_same, [(Sum.inl 0, .bl true)], rfl, by decide, ?_⟩
    rw [upd_upd]
    have g0 : Grow G H G (upd H d (.dK (rDict [0]))) := (Grow.refl hG).hid _ hd
    have dG : G d = none := hG.free hd
    -- for lap in range(places)
    refine ⟨_, rfl, (n : Int), rfl, by omega, by omega, for_range (lo := 0) (n := (n : Int).toNat) (fun i σ H' => ∃ (o1 o2 o3 : Option V), σ = [some (.int n), some (.ref a), some (.ref d), o1, o2, o3] ∧ Grow G H G H' ∧ H' d = some (.dK (rDict (rLaps ds i))))
      ⟨none, none, none, rfl, g0, upd_same⟩ ?_ ?_⟩
    · rintro i σ H1 hi ⟨o1, o2, o3, rfl, g1, h1⟩
      have hi' : i < n := by omega
      -- for one, other in doors
      refine ⟨_, rfl, a, rfl, ⟨ys, SqL.of (g1.sub _ _ (g1.ss _ _ ha))⟩, for_list (K := K) (a := a) (xs := ys) (fun j σ H' => ∃ (o1 o2 o3 : Option V), σ = [some (.int n), some (.ref a), some (.ref d), o1, o2, o3] ∧ Grow G H G H' ∧ H' d = some (.dK (rDict ((ds.take j).foldl rStep (rLaps ds i)))))
        ⟨_, _, _, rfl, g1, h1⟩ (fun j σ H' _ ⟨_, _, _, _, g2, _⟩ => SqL.of (g2.sub _ _ (g2.ss _ _ ha))) ?_ ?_⟩
      · rintro j x σ H2 hj ⟨o4, o5, o6, rfl, g2, h2⟩
        obtain ⟨p, hp, t, rfl, ht⟩ := paired_get' hys hj
        refine ⟨t, _, rfl, SqT.of (g2.sub _ _ (g2.ss _ _ ht)), rfl, _, _, rfl, _, _, rfl, rfl, ?_⟩
        -- if one in reached or other in reached
        have step : (ds.take (j + 1)).foldl rStep (rLaps ds i) = rStep ((ds.take j).foldl rStep (rLaps ds i)) p := by
          rw [take_snoc hp, List.foldl_append]
          rfl
        have hl : ((ds.take j).foldl rStep (rLaps ds i)).length ≤ 1 + 2 * ds.length * i + 2 * ds.length := by
          have l1 := foldl_rStep_length (ds.take j) (rLaps ds i)
          have l2 := rLaps_length ds i
          have l3 : (ds.take j).length ≤ ds.length := by rw [List.length_take]; omega
          omega
        have hl2 : ((ds.take j).foldl rStep (rLaps ds i)).length ≤ 1000000 := by
          have : 2 * ds.length * i ≤ 2 * 1000 * 100 := Nat.mul_le_mul (by omega) (by omega)
          omega
        generalize (ds.take j).foldl rStep (rLaps ds i) = R at step hl2 h2
        have go : ∀ R', R' = rStep R p → (∀ H3, Grow G H G H3 → H3 d = some (.dK (rDict R')) → ∃ (o1 o2 o3 : Option V), [some (.int (n : Int)), some (.ref a), some (.ref d), o4, some (.int p.1), some (.int p.2)] = [some (.int (n : Int)), some (.ref a), some (.ref d), o1, o2, o3] ∧ Grow G H G H3 ∧ H3 d = some (.dK (rDict ((ds.take (j + 1)).foldl rStep (rLaps ds i))))) :=
          fun R' e H3 g3 h3 => ⟨_, _, _, rfl, g3, by rw [step, ← e]; exact h3⟩
        refine ⟨_, rfl, _, rfl, d, _, rfl, DGet.k (k := Sum.inl p.1) h2, _, rfl, ?_⟩
        rw [rDict_isSome]
        have put : (p.1 ∈ R ∨ p.2 ∈ R) → addR (addR R p.1) p.2 = rStep R p := fun h => by
          unfold rStep
          rw [if_pos h]
        have store : (p.1 ∈ R ∨ p.2 ∈ R) → ∀ D : Ends, (D.nx = fun σ H' => ∃ (o1 o2 o3 : Option V), σ = [some (.int (n : Int)), some (.ref a), some (.ref d), o1, o2, o3] ∧ Grow G H G H' ∧ H' d = some (.dK (rDict ((ds.take (j + 1)).foldl rStep (rLaps ds i))))) →
            tSeq (sDPut (tVar 2) (tVar 4) (tC (.bl true))) (sDPut (tVar 2) (tVar 5) (tC (.bl true))) D [some (.int (n : Int)), some (.ref a), some (.ref d), o4, some (.int p.1), some (.int p.2)] H2 := fun h D eD => by
          refine ⟨_, rfl, _, rfl, d, _, rfl, DPut.k (k := Sum.inl p.1) h2 (by rw [rDict_length, sizeLine_eq]; omega), ?_⟩
          have l1 := addR_length R p.1
          refine ⟨_, rfl, _, rfl, d, _, rfl, DPut.k (k := Sum.inl p.2) upd_same (by rw [rDict_put, rDict_length, sizeLine_eq]; omega), ?_⟩
          rw [rDict_put, rDict_put, upd_upd, eD]
          exact go _ (put h) _ (g2.mut _ dG hd) upd_same
        by_cases c1 : p.1 ∈ R
        · rw [decide_eq_true c1]
          exact iteT (iteT (store (.inl c1) _ rfl))
        · rw [decide_eq_false c1]
          refine iteF ?_
          refine ⟨_, rfl, _, rfl, d, _, rfl, DGet.k (k := Sum.inl p.2) h2, _, rfl, ?_⟩
          rw [rDict_isSome]
          by_cases c2 : p.2 ∈ R
          · rw [decide_eq_true c2]
            exact iteT (store (.inr c2) _ rfl)
          · rw [decide_eq_false c2]
            refine iteF ?_
            refine go R ?_ H2 g2 h2
            unfold rStep
            rw [if_neg (fun z => z.elim c1 c2)]
      · rintro σ H2 ⟨o4, o5, o6, rfl, g2, h2⟩
        rw [paired_len hys, List.take_length] at h2
        exact ⟨_, _, _, rfl, g2, h2⟩
    · rintro σ H1 ⟨o1, o2, o3, rfl, g1, h1⟩
      refine ⟨_, rfl, d, _, rfl, h1, _, rfl, rfl, ?_⟩
      have e : decide (V.int ((rDict (rLaps ds (n : Int).toNat)).length : Int) = V.int (n : Int)) = reachedB n ds := by
        rw [rDict_length, dec_int]
        unfold reachedB
        simp only [Int.toNat_natCast]
        rw [Bool.eq_iff_iff, beq_iff_eq, beq_iff_eq]
        omega
      rw [e]
      exact k H1 g1
end
end CF

namespace CF
open PySem L2 PyProof.Rows
section
variable {P : Program} {w : World} {K : PySem.W.Frag} {mg : Str → Option Value} {base : Heap}
theorem sc_init : FnScope ["self", "places", "doors", "k", "one", "other"] ["self", "places", "doors"] (defScope s_init) := ⟨rfl, rfl, rfl, by decide +kernel, rfl, by decide +kernel, by decide +kernel⟩
theorem ok_init {f C CN : Addr} {fd : FuncData} (F : Fun K "__init__" "Floor.__init__" s_init f fd) (T : FlrC K mg C) (N : Exn K mg "NoFloor" CN) (mr : mg "range" = none) (ml : mg "len" = none) (mls : mg "list" = none) (mm : ∃ t, mg "MOST" = some (.int 6 t))
    (R : Cal P w K mg base 1 "all_reached" ["places", "doors"] spReached) : FnOk P w K mg base (L2N.CX P w) 2 f fd ["self", "places", "doors"] (spInit C CN) := by
  refine Fun_okN F sc_init (fun vs H Q E h => ?_) (fun cdv A outer s H vs Q E hr tk h => ?_)
  · obtain ⟨F, x, dx, n, v, ds, rfl, _⟩ := h
    rfl
  · obtain ⟨G, x, dx, n, v, ds, rfl, hG, Gx, hx, hds, hl, k, kE⟩ := h
    obtain ⟨a, ys, rfl, ha, hp⟩ := id hds
    obtain ⟨tm, mm⟩ := mm
    have hu0 := hr.units0
    refine ⟨_, pss_cons (ps_if (pt_not (pt_chain op_le op_le pe_int (pv 1) (pe_glob (v := .int 6) rfl mm ⟨_, rfl⟩))) (pss_one (ps_rs rfl tk N rfl)) pss_nil)
      (pss_cons (ps_for (passes_of rfl) rfl (pi_range1 rfl mr (pa_cons (pe_callB call_len_seq (by rfl) ml PySem.boot_len (pa_cons (pv 2) pa_nil)) pa_nil)) (pg_name (i := 3) sc_init.nd rfl (.inl rfl))
        (pss_cons (ps_asg (pe_ix ix_list (pv 2) (pv 3) (fun _ _ => rfl)) (pg_tup rfl (pgs_cons (pg_name (i := 4) sc_init.nd rfl (.inl rfl)) (pgs_cons (pg_name (i := 5) sc_init.nd rfl (.inl rfl)) pgs_nil))))
        (pss_one (ps_if (PW.pt (pw_or (pt_not (pt_chain4 ci_le ci_lt ci_lt pe_int (pv 4) (pv 5) (pv 1)))
          (pw_or1 (PW.pt (pw_and (pt_cmpR op_gt (pv 3) pe_int (nomark _)) (pw_and1 (pt_cmpR (op_geP hu0) (pe_ix ix_list (pv 2) (pe_op op_sub (pv 3) pe_int) (fun _ _ => rfl)) (pe_ix ix_list (pv 2) (pv 3) (fun _ _ => rfl)) (nomark _))))))))
          (pss_one (ps_rs rfl tk N rfl)) pss_nil))))
      (pss_cons (ps_if (pt_not (pt_val (pe_cl R hr rfl (pa_cons (pv 1) (pa_cons (pv 2) pa_nil))))) (pss_one (ps_rs rfl tk N rfl)) pss_nil)
      (pss_cons (ps_fld (pv 0) (pv 1) rfl) (pss_one (ps_fld (pv 0) (pe_callTy call_list_of (by rfl) mls PyProof.Rows.boot_list (pa_cons (pv 2) pa_nil)) rfl))))), ?_⟩
    have haH := hG _ _ ha
    -- if not 1 <= places <= MOST
    refine ⟨_, rfl, _, _, rfl, rfl, _, rfl, ?_⟩
    by_cases c1 : 1 ≤ n
    case neg =>
      rw [decide_eq_false c1]
      exact iteF ⟨_, rfl, iteT (kE (by unfold floorB; rw [decide_eq_false c1]; rfl) H (Grow.refl hG))⟩
    rw [decide_eq_true c1]
    refine iteT ⟨_, _, rfl, rfl, _, rfl, ?_⟩
    by_cases c2 : n ≤ 6
    case neg =>
      rw [decide_eq_false c2]
      exact iteT (kE (by unfold floorB; rw [decide_eq_false c2, Bool.and_false]; rfl) H (Grow.refl hG))
    rw [decide_eq_true c2]
    refine iteF ?_
    have hlen := paired_len hp
    -- for k in range(len(doors))
    refine ⟨_, rfl, a, ys, rfl, .inl (SqL.of haH), (ys.length : Int), rfl, by omega, by omega, for_range (lo := 0) (n := (ys.length : Int).toNat) (fun i σ H' => H' = H ∧ (∃ (o1 o2 o3 : Option V), σ = [some (.ref x), some (.int n), some (.ref a), o1, o2, o3]) ∧ ∀ j, j < i → goodAt n ds j = true)
      ⟨rfl, ⟨none, none, none, rfl⟩, fun j hj => absurd hj (Nat.not_lt_zero j)⟩ ?_ ?_⟩
    · rintro i σ H1 hi ⟨rfl, ⟨o1, o2, o3, rfl⟩, hgood⟩
      rw [Int.toNat_natCast] at hi
      rw [Int.zero_add]
      obtain ⟨y, hy⟩ : ∃ y, ys[i]? = some y := ⟨ys[i], List.getElem?_eq_getElem hi⟩
      obtain ⟨p, hpi, t, rfl, ht⟩ := paired_get' hp hy
      refine ⟨_, rfl, _, rfl, a, ys, _, _, rfl, rfl, SqL.of haH, atI_nat hy, t, _, rfl, SqT.of (hG _ _ ht), rfl, _, _, rfl, _, _, rfl, rfl, ?_⟩
      -- the test
      have bad : goodAt n ds i = false → floorB n ds = false := fun e => by
        unfold floorB
        have : goodB n ds = false := by
          unfold goodB
          rw [List.all_eq_false]
          exact ⟨i, List.mem_range.mpr (by omega), by rw [e]; decide⟩
        rw [this, Bool.and_false]
        rfl
      have ga : goodAt n ds i = (decide (0 ≤ p.1) && decide (p.1 < p.2) && decide (p.2 < n) && prevB ds p i) := by
        unfold goodAt
        rw [hpi]
      refine ⟨_, rfl, _, _, rfl, rfl, ?_⟩
      by_cases d1 : 0 ≤ p.1
      case neg =>
        exact iteDF d1 (iteT (iteT (kE (bad (by rw [ga, decide_eq_false d1]; rfl)) _ (Grow.refl hG))))
      refine iteDT d1 ⟨_, rfl, _, rfl, ?_⟩
      by_cases d2 : p.1 < p.2
      case neg =>
        exact iteDF d2 (iteT (iteT (kE (bad (by rw [ga, decide_eq_false d2, Bool.and_false]; rfl)) _ (Grow.refl hG))))
      refine iteDT d2 ⟨_, rfl, _, rfl, ?_⟩
      by_cases d3 : p.2 < n
      case neg =>
        exact iteNT d3 (iteT (kE (bad (by rw [ga, decide_eq_false d3, Bool.and_false]; rfl)) _ (Grow.refl hG)))
      refine iteNF d3 ⟨_, rfl, _, _, rfl, rfl, _, rfl, ?_⟩
      have on : goodAt n ds i = true → (H1 = H1 ∧ (∃ (u1 u2 u3 : Option V), [some (.ref x), some (.int n), some (.ref a), some (V.int (i : Int)), some (.int p.1), some (.int p.2)] = [some (.ref x), some (.int n), some (.ref a), u1, u2, u3]) ∧ ∀ j, j < i + 1 → goodAt n ds j = true) := fun e =>
        ⟨rfl, ⟨_, _, _, rfl⟩, fun j hj => by
          by_cases e1 : j = i
          · rw [e1]
            exact e
          · exact hgood j (by omega)⟩
      cases i with
      | zero =>
        exact iteDF (by decide) (iteF (on (by rw [ga, decide_eq_true d1, decide_eq_true d2, decide_eq_true d3]; rfl)))
      | succ j =>
        obtain ⟨y', hy'⟩ : ∃ y, ys[j]? = some y := ⟨ys[j], List.getElem?_eq_getElem (by omega)⟩
        obtain ⟨p', hpi', t', rfl, ht'⟩ := paired_get' hp hy'
        refine iteDT (by omega : (0 : Int) < ((j + 1 : Nat) : Int)) ⟨_, rfl, _, rfl, _, _, rfl, rfl, a, ys, _, _, rfl, rfl, SqL.of haH, at_of (j := j) (by omega) hy', _, rfl, _, rfl, a, ys, _, _, rfl, rfl, SqL.of haH, atI_nat hy, t', t, p', p, rfl, rfl, SqT.of (hG _ _ ht'), SqT.of (hG _ _ ht), _, rfl, ?_⟩
        have ga' : goodAt n ds (j + 1) = !geP p' p := by
          rw [ga, decide_eq_true d1, decide_eq_true d2, decide_eq_true d3]
          show (true && (match ds[j]? with
            | some c => !geP c p
            | none => false)) = _
          rw [hpi']
          rfl
        cases hge : geP p' p with
        | true => exact iteT (kE (bad (by rw [ga', hge]; rfl)) _ (Grow.refl hG))
        | false => exact iteF (on (by rw [ga', hge]; rfl))
    · rintro σ H1 ⟨rfl, ⟨o1, o2, o3, rfl⟩, hgood⟩
      rw [Int.toNat_natCast] at hgood
      have hgB : goodB n ds = true := by
        unfold goodB
        rw [List.all_eq_true]
        intro j hj
        exact hgood j (by rw [List.mem_range] at hj; omega)
      -- if not all_reached(places, doors)
      refine ⟨_, rfl, _, rfl, G, n.toNat, .ref a, ds, by rw [Int.toNat_of_nonneg (by omega)]; rfl, hG, hds, by omega, hl, fun H2 g2 => ⟨_, rfl, ?_⟩⟩
      cases hre : reachedB n.toNat ds with
      | false => exact iteT (kE (by unfold floorB; rw [hre, Bool.and_false]) _ g2)
      | true =>
        refine iteF ?_
        have hx2 := g2.keep _ _ hx
        have ha2 := g2.sub _ _ ha
        have nax : a ≠ x := fun z => by rw [z, Gx] at ha; cases ha
        refine ⟨_, rfl, _, rfl, x, C, dx, [], rfl, hx2, T.cl, T.nP, (by show 0 < 1000; decide), ?_⟩
        refine ⟨_, rfl, a, ys, rfl, .inl (SqL.of (by rw [upd_ne nax]; exact ha2)), fun d hd => ?_⟩
        have ndx : d ≠ x := fun z => by rw [z, upd_same] at hd; cases hd
        rw [upd_ne ndx] at hd
        refine ⟨_, rfl, x, C, dx, _, rfl, by rw [upd_ne ndx.symm]; exact upd_same, T.cl, T.nD, (by show 1 < 1000; decide), ?_⟩
        refine k (by unfold floorB; rw [hgB, hre, decide_eq_true c1, decide_eq_true c2]; rfl) d ys _ (g2.keep.free hd) (fun b o hb hbx => ?_) upd_same (by rw [upd_ne ndx]; exact upd_same) hp
        rw [upd_ne hbx, upd_ne (ne_of_none (g2.keep _ _ hb) hd), upd_ne hbx]
        exact g2.keep _ _ hb
end
end CF

namespace CF
open PySem L2 PyProof.Rows
section
variable {P : Program} {w : World} {K : PySem.W.Frag} {mg : Str → Option Value} {base : Heap}
theorem sc_lstand : FnScope ["script", "at", "places", "count", "chasers", "k"] ["script", "at", "places", "count"] (defScope s_law_standing_by) := ⟨rfl, rfl, rfl, by decide +kernel, rfl, by decide +kernel, by decide +kernel⟩
theorem ok_lstand {f : Addr} {fd : FuncData} (F : Fun K "_law_standing_by" "_law_standing_by" s_law_standing_by f fd) (mr : mg "range" = none)
    (CE : Cal P w K mg base 1 "_law_cell_at" ["script", "k"] (spCell K)) : FnOk P w K mg base CX0 2 f fd ["script", "at", "places", "count"] (spLStand K) := by
  refine F.ok sc_lstand (fun vs H Q E h => ?_) (fun cdv A outer s H vs Q E hr h => ?_)
  · obtain ⟨F, a, sc, at_, n, c, rfl, _⟩ := h
    rfl
  · obtain ⟨G, a, sc, at_, n, c, rfl, hG, hsc, hn, hc, k⟩ := h
    have nd := sc_lstand.nd
    refine ⟨_, pss_cons (ps_setLc (i := 4) (own := [("k", 5)]) (g := gName 5) (tt := tYes) rfl nd rfl rfl (sw_true rfl rfl rfl (by decide +kernel)) (pi_range1 rfl mr (pa_cons (pv 3) pa_nil)) (blkOk_by (N := ["script", "at", "places", "count", "chasers", "k"]) (sc := defScope s_law_standing_by) (by decide +kernel))
            (fun _ _ _ _ _ => pg_name (i := 5) nd rfl (Or.inl rfl)) (fun _ _ _ _ _ => pts_nil) (fun _ _ _ _ _ => pe_op op_mod (pe_cl CE hr rfl (pa_cons (pv 0) (pa_cons (pe_op op_add (pv 1) (pv 5)) pa_nil))) (pv 2)))
      (pss_one (ps_ret (pe_tup (pa_cons (pv 4) (pa_cons (pe_op op_mod (pe_cl CE hr rfl (pa_cons (pv 0) (pa_cons (pe_op op_add (pv 1) pe_int) pa_nil))) (pv 2)) pa_nil))))), ?_⟩
    refine ⟨_, rfl, (c : Int), rfl, by omega, by omega, fun D hD => ?_⟩
    refine lcv_range (n := (c : Int).toNat) RNat (fun i => some (cellF sc ((at_ : Int) + (i : Int)) % (n : Int)).toNat) rnat_ext hG hD (by rw [sizeLine_eq]; omega) (fun i F' H' hi g hFD ho Q' q => ?_) fun F1 H1 ws g1 h1 h2 => ?_
    · rw [Int.zero_add]
      refine cs_yes ⟨_, rfl, _, rfl, _, rfl, _, _, rfl, rfl, a, sc, _, rfl, (hsc.ext g.ss).ext g.sub, by omega, _, rfl, _, _, rfl, rfl, by omega, ?_⟩
      refine q F' H' (some _) (Grow.refl g.sub) ?_
      obtain ⟨m, hm, _⟩ := emod_nat (cellF sc ((at_ : Int) + (i : Int))) hn
      show V.int (cellF sc ((at_ : Int) + (i : Int)) % (n : Int)) = nv (cellF sc ((at_ : Int) + (i : Int)) % (n : Int)).toNat
      rw [hm]
      rfl
    rw [made_some, Int.toNat_natCast] at h2
    have e1 := rnat_map h2
    obtain ⟨r, hr1, hr2⟩ := emod_nat (cellF sc ((at_ : Int) + 2)) hn
    refine ⟨_, rfl, _, rfl, _, rfl, _, _, rfl, rfl, a, sc, _, rfl, (hsc.ext g1.ss).ext g1.sub, by omega, _, rfl, _, _, rfl, rfl, by omega, (by show 2 ≤ sizeLine; decide), fun t ht => ?_⟩
    refine k _ _ t (.ref D) ((List.range c).map fun (i : Nat) => (cellF sc ((at_ : Int) + (i : Int)) % (n : Int)).toNat) r (g1.alloc (.tup [.ref D, .int (cellF sc ((at_ : Int) + 2) % (n : Int))]) ht) (by simp) (fun p hp => ?_) hr2 ?_ ⟨D, rfl, same_new _ (g1.sub.free ht) _ _ (by rw [h1, e1])⟩ ⟨D, rfl, hD⟩
    · obtain ⟨i, _, rfl⟩ := List.mem_map.mp hp
      obtain ⟨m, hm, hm'⟩ := emod_nat (cellF sc ((at_ : Int) + (i : Int))) hn
      rw [hm]
      omega
    · rw [hr1]
      exact upd_same
end
end CF

namespace CF
open PySem L2 PyProof.Rows
section
variable {P : Program} {w : World} {K : PySem.W.Frag} {mg : Str → Option Value} {base : Heap}
theorem sc_is_standing : FnScope ["floor", "chasers", "runner", "place"] ["floor", "chasers", "runner"] (defScope s_is_standing) := ⟨rfl, rfl, rfl, by decide +kernel, rfl, by decide +kernel, by decide +kernel⟩
theorem ok_is_standing {f C : Addr} {fd : FuncData} (F : Fun K "is_standing" "is_standing" s_is_standing f fd) (T : FlrC K mg C) (ml : mg "len" = none) : FnOk P w K mg base CX0 1 f fd ["floor", "chasers", "runner"] (spStand C) := by
  refine F.ok sc_is_standing (fun vs H Q E h => ?_) (fun cdv A outer s H vs Q E hr h => ?_)
  · obtain ⟨F, v, n, ds, a, is, r, rfl, _⟩ := h
    rfl
  · obtain ⟨G, v, n, ds, a, is, r, rfl, hG, ⟨x, dx, d, rfl, hx, hds⟩, ha, hl, k⟩ := h
    refine ⟨_, pss_cons (ps_if (PW.pt (pw_or (pt_cmpR op_lt (pe_callB call_len_seq (by rfl) ml PySem.boot_len (pa_cons (pv 1) pa_nil)) pe_int (nomark _)) (pw_or1 (pt_cmpR op_gt (pe_callB call_len_seq (by rfl) ml PySem.boot_len (pa_cons (pv 1) pa_nil)) pe_int (nomark _))))) (pss_one (ps_ret pe_bl)) pss_nil)
      (pss_cons (ps_for PassesOwn.never rfl (pi_list (pe_op op_cat (pv 1) (pe_lst (pa_cons (pv 2) pa_nil)))) (pg_name (i := 3) sc_is_standing.nd rfl (.inl rfl))
        (pss_one (ps_if (pt_not (pt_chain op_le op_lt pe_int (pv 3) (pe_fld (pv 0) rfl))) (pss_one (ps_ret pe_bl)) pss_nil)))
      (pss_one (ps_ret pe_bl))), ?_⟩
    have haH := hG _ _ ha
    have el : (intsV is).length = is.length := by simp [intsV]
    refine ⟨_, rfl, a, _, rfl, .inl (SqL.of haH), _, _, rfl, rfl, _, rfl, ?_⟩
    rw [el]
    by_cases c1 : (is.length : Int) < 1
    · refine iteDT c1 (iteT ?_)
      have e : standB n is r = false := by
        unfold standB
        rw [decide_eq_false (by omega : ¬ 1 ≤ is.length)]
        rfl
      rw [← e]
      exact k _ (Grow.refl hG)
    refine iteDF c1 ⟨_, rfl, a, _, rfl, .inl (SqL.of haH), _, _, rfl, rfl, _, rfl, ?_⟩
    rw [el]
    by_cases c2 : 2 < (is.length : Int)
    · refine iteDT c2 ?_
      have e : standB n is r = false := by
        unfold standB
        rw [decide_eq_false (by omega : ¬ is.length ≤ 2), Bool.and_false]
        rfl
      rw [← e]
      exact k _ (Grow.refl hG)
    refine iteDF c2 ?_
    have e : standB n is r = (is ++ [r]).all fun i => decide (0 ≤ i) && decide (i < n) := by
      unfold standB
      rw [decide_eq_true (by omega : 1 ≤ is.length), decide_eq_true (by omega : is.length ≤ 2)]
      rfl
    -- chasers + [runner]
    refine ⟨_, rfl, _, rfl, (by show 1 ≤ sizeLine; decide), fun p hp => ?_⟩
    have nap : a ≠ p := ne_of_none haH hp
    refine ⟨a, p, _, _, rfl, rfl, by rw [upd_ne nap]; exact haH, upd_same, by rw [el, sizeLine_eq]; simp; omega, fun q hq => ?_⟩
    have g1 : Grow G H G (upd (upd H p (.lst [.int r])) q (.lst (intsV is ++ [.int r]))) := ((Grow.refl hG).hid _ hp).hid _ hq
    have hlist : intsV is ++ [V.int r] = (is ++ [r]).map V.int := by simp [intsV]
    refine ⟨q, rfl, ⟨_, SqL.of upd_same⟩, for_list (K := K) (a := q) (xs := intsV is ++ [.int r]) (fun i σ H' => H' = upd (upd H p (.lst [.int r])) q (.lst (intsV is ++ [.int r])) ∧ (∃ o : Option V, σ = [some (.ref x), some (.ref a), some (.int r), o]) ∧ ((is ++ [r]).take i).all (fun i => decide (0 ≤ i) && decide (i < n)) = true)
      ⟨rfl, ⟨none, rfl⟩, rfl⟩ (fun i σ H' _ h => by rw [h.1]; exact SqL.of upd_same) ?_ ?_⟩
    · rintro i y σ H1 hi ⟨rfl, ⟨o, rfl⟩, hall⟩
      rw [hlist, List.getElem?_map] at hi
      obtain ⟨z, hz, rfl⟩ := Option.map_eq_some_iff.mp hi
      have bad : (decide (0 ≤ z) && decide (z < (n : Int))) = false → standB n is r = false := fun hb => by
        rw [e, List.all_eq_false]
        exact ⟨z, List.mem_of_getElem? hz, by rw [hb]; decide⟩
      refine ⟨_, rfl, _, _, rfl, rfl, _, rfl, ?_⟩
      by_cases d1 : 0 ≤ z
      case neg =>
        refine iteDF d1 ⟨_, rfl, iteT ?_⟩
        rw [← bad (by rw [decide_eq_false d1]; rfl)]
        exact k _ g1
      refine iteDT d1 ⟨_, rfl, x, C, dx, _, _, rfl, g1.sub _ _ hx, T.cl, T.nP, flds_places _ _, _, _, rfl, rfl, _, rfl, ?_⟩
      by_cases d2 : z < (n : Int)
      case neg =>
        refine iteNT d2 ?_
        show Q (.bl false) _
        rw [← bad (by rw [decide_eq_false d2, Bool.and_false])]
        exact k _ g1
      refine iteNF d2 ⟨rfl, ⟨_, rfl⟩, ?_⟩
      rw [take_snoc hz, List.all_append, hall, List.all_cons, decide_eq_true d1, decide_eq_true d2]
      rfl
    · rintro σ H1 ⟨rfl, ⟨o, rfl⟩, hall⟩
      have e2 : (intsV is ++ [V.int r]).length = (is ++ [r]).length := by simp [intsV]
      rw [e2, List.take_length] at hall
      show Q (.bl true) _
      rw [← hall, ← e]
      exact k _ g1
end
end CF

namespace CF
open PySem L2 PyProof.Rows
section
variable {P : Program} {w : World} {K : PySem.W.Frag} {mg : Str → Option Value} {base : Heap}
theorem sc_asked : FnScope ["floor", "chasers", "runner"] ["floor", "chasers", "runner"] (defScope s_asked_standing) := ⟨rfl, rfl, rfl, by decide +kernel, rfl, by decide +kernel, by decide +kernel⟩
theorem ok_asked {f C CN : Addr} {fd : FuncData} (F : Fun K "asked_standing" "asked_standing" s_asked_standing f fd) (N : Exn K mg "NoStanding" CN)
    (I : Cal P w K mg base 1 "is_standing" ["floor", "chasers", "runner"] (spStand C)) : FnOk P w K mg base (L2N.CX P w) 2 f fd ["floor", "chasers", "runner"] (spAsked C CN) := by
  refine Fun_okN F sc_asked (fun vs H Q E h => ?_) (fun cdv A outer s H vs Q E hr tk h => ?_)
  · obtain ⟨F, v, n, ds, a, is, r, rfl, _⟩ := h
    rfl
  · obtain ⟨G, v, n, ds, a, is, r, rfl, hG, hfl, ha, hl, k, kE⟩ := h
    refine ⟨_, pss_one (ps_if (pt_not (pt_val (pe_cl I hr rfl (pa_cons (pv 0) (pa_cons (pv 1) (pa_cons (pv 2) pa_nil)))))) (pss_one (ps_rs rfl tk N rfl)) pss_nil), ?_⟩
    refine ⟨_, rfl, _, rfl, _, rfl, G, v, n, ds, a, is, r, rfl, hG, hfl, ha, hl, fun H' g => ⟨_, rfl, ?_⟩⟩
    cases hs : standB n is r with
    | true => exact iteF (k hs H' g)
    | false => exact iteT (kE hs H' g)
end
end CF

namespace CF
open PySem L2 PyProof.Rows
section
variable {P : Program} {w : World} {K : PySem.W.Frag} {mg : Str → Option Value} {base : Heap}
theorem sc_joins : FnScope ["self", "place", "other"] ["self", "place", "other"] (defScope s_joins) := ⟨rfl, rfl, rfl, by decide +kernel, rfl, by decide +kernel, by decide +kernel⟩
theorem ok_joins {f C : Addr} {fd : FuncData} (F : Fun K "joins" "Floor.joins" s_joins f fd) (T : FlrC K mg C) (mn : mg "min" = none) (mx : mg "max" = none) : FnOk P w K mg base CX0 2 f fd ["self", "place", "other"] (spJoins C) := by
  refine F.ok sc_joins (fun vs H Q E h => ?_) (fun cdv A outer s H vs Q E hr h => ?_)
  · obtain ⟨F, v, n, ds, p, q, rfl, _⟩ := h
    rfl
  · obtain ⟨G, v, n, ds, p, q, rfl, hG, ⟨x, dx, d, rfl, hx, hds⟩, k⟩ := h
    have hu : (A.deeper (envOfC "Floor.joins" (defScope s_joins) s.heap.objs.size f cdv)).units + 65 < cLine := by
      have := hr.un
      omega
    refine ⟨_, pss_one (ps_ret (pe_or (pe_cmpR op_eq (pv 1) (pv 2) (nomark _)) (pe_one (pe_cmpR (op_inD hu)
      (pe_tup (pa_cons (pe_callB (call_min2 rfl) (by rfl) mn (by decide +kernel) (pa_cons (pv 1) (pa_cons (pv 2) pa_nil))) (pa_cons (pe_callB (call_max2 rfl) (by rfl) mx (by decide +kernel) (pa_cons (pv 1) (pa_cons (pv 2) pa_nil))) pa_nil)))
      (pe_fld (pv 0) rfl) rfl)))), ?_⟩
    refine ⟨_, rfl, _, rfl, rfl, _, rfl, ?_⟩
    by_cases c : p = q
    · subst c
      rw [decide_eq_true rfl]
      refine iteT ?_
      have e : joinsB ds p p = true := by simp [joinsB]
      rw [← e]
      exact k H (Grow.refl hG)
    · rw [decide_eq_false (fun z => c (V.int.inj z))]
      refine iteF ?_
      refine ⟨_, rfl, _, rfl, _, _, rfl, _, rfl, _, rfl, _, _, rfl, (by show 2 ≤ sizeLine; decide), fun t ht => ?_⟩
      have g := (Grow.refl hG).alloc (.tup [.int (mnI p q), .int (mxI p q)]) ht
      have hx' := g.sub _ _ (g.ss _ _ hx)
      refine ⟨_, rfl, x, C, dx, _, _, rfl, hx', T.cl, T.nD, flds_doors _ _, dPr (mnI p q, mxI p q), ds.map dPr, ?_, PairL.dp (hds.ext (hG.trans (same_new _ ht))), dPr_shaped _, dPrs_shaped _, ?_⟩
      · exact PairT.dp ⟨t, rfl, upd_same⟩
      · rw [any_dPr]
        have e : joinsB ds p q = decide ((mnI p q, mxI p q) ∈ ds) := by
          unfold joinsB
          rw [decide_eq_false c]
          rfl
        rw [← e]
        exact k _ ((Grow.refl hG).hid _ ht)
end
end CF

namespace CF
open PySem L2 PyProof.Rows
section
variable {P : Program} {w : World} {K : PySem.W.Frag} {mg : Str → Option Value} {base : Heap}
theorem sc_near : FnScope ["self", "place", "other"] ["self", "place"] (defScope s_near) := ⟨rfl, rfl, rfl, by decide +kernel, rfl, by decide +kernel, by decide +kernel⟩
theorem ok_near {f C CN : Addr} {fd : FuncData} (F : Fun K "near" "Floor.near" s_near f fd) (T : FlrC K mg C) (N : Exn K mg "NoStanding" CN) (mr : mg "range" = none)
    (J : Met P w K mg base C 2 "joins" ["self", "place", "other"] (spJoins C)) : FnOk P w K mg base (L2N.CX P w) 3 f fd ["self", "place"] (spNear C CN) := by
  refine Fun_okN F sc_near (fun vs H Q E h => ?_) (fun cdv A outer s H vs Q E hr tk h => ?_)
  · obtain ⟨F, v, n, ds, p, rfl, _⟩ := h
    rfl
  · obtain ⟨G, v, n, ds, p, rfl, hG, hfl, hn, k, kE⟩ := h
    obtain ⟨x, dx, d, rfl, hx, hds⟩ := id hfl
    refine ⟨_, pss_cons (ps_if (pt_not (pt_chain op_le op_lt pe_int (pv 1) (pe_fld (pv 0) rfl))) (pss_one (ps_rs rfl tk N rfl)) pss_nil)
      (pss_one (ps_ret (pe_lc (own := [("other", 2)]) (g := gName 2) rfl sc_near.nd (pi_range1 rfl mr (pa_cons (pe_fld (pv 0) rfl) pa_nil)) (blkOk_by (N := ["self", "place", "other"]) (sc := defScope s_near) (by decide +kernel))
        (fun _ _ _ _ _ => pg_name (i := 2) sc_near.nd rfl (Or.inl rfl)) (fun _ _ _ _ _ => pts_one (pt_val (pe_mt J T.cl hr (pv 0) (pa_cons (pv 1) (pa_cons (pv 2) pa_nil))))) (fun _ _ _ _ _ => pv 2)))), ?_⟩
    have hxH := hG _ _ hx
    refine ⟨_, rfl, _, _, rfl, rfl, _, rfl, ?_⟩
    by_cases c : 0 ≤ p ∧ p < n
    · rw [decide_eq_true c.1]
      refine iteT ⟨_, rfl, x, C, dx, _, _, rfl, hxH, T.cl, T.nP, flds_places _ _, _, _, rfl, rfl, _, rfl, ?_⟩
      rw [decide_eq_true c.2]
      refine iteF ?_
      -- the comprehension
      refine ⟨_, rfl, x, C, dx, _, _, rfl, hxH, T.cl, T.nP, flds_places _ _, _, rfl, by omega, by omega, fun D hD => ?_⟩
      refine lcv_range (n := (n : Int).toNat) RNat (fun i => if joinsB ds p i = true then some i else none) rnat_ext hG hD (by rw [sizeLine_eq]; omega) (fun i F' H' hi g hFD ho Q' q => ?_) fun F' H' ys g h1 h2 => ?_
      · refine ⟨rfl, _, rfl, x, dx, _, rfl, g.sub _ _ (g.ss _ _ hx), flds_no _ _ (by decide +kernel) (by decide +kernel), _, rfl, _, rfl, F', _, n, ds, p, _, rfl, g.sub, hfl.ext g.ss, fun H2 g2 => ⟨_, rfl, ?_⟩⟩
        rw [Int.zero_add]
        cases hb : joinsB ds p i with
        | true => exact iteT ⟨_, rfl, q F' H2 (some (nv i)) g2 (by rw [if_pos hb]; exact rfl)⟩
        | false => exact iteF (q F' H2 none g2 (by rw [if_neg (by rw [hb]; decide)]; exact trivial))
      · refine k c F' H' _ g ⟨D, rfl, ?_⟩ ⟨D, rfl, hD⟩
        rw [h1, rnat_map h2, made_if]
        have e : nearF n ds p.toNat = (List.range (n : Int).toNat).filter fun (i : Nat) => joinsB ds p (i : Int) := by
          have e1 : ((p.toNat : Nat) : Int) = p := by omega
          unfold nearF
          rw [e1, Int.toNat_natCast]
        rw [e]
    · by_cases c0 : 0 ≤ p
      · rw [decide_eq_true c0]
        refine iteT ⟨_, rfl, x, C, dx, _, _, rfl, hxH, T.cl, T.nP, flds_places _ _, _, _, rfl, rfl, _, rfl, ?_⟩
        rw [decide_eq_false (fun z => c ⟨c0, z⟩)]
        exact iteT (kE c H (Grow.refl hG))
      · rw [decide_eq_false c0]
        exact iteF ⟨_, rfl, iteT (kE c H (Grow.refl hG))⟩
end
end CF

namespace CF
open PySem L2 PyProof.Rows
section
variable {P : Program} {w : World} {K : PySem.W.Frag} {mg : Str → Option Value} {base : Heap}
theorem sc_around : FnScope ["floor", "place"] ["floor"] (defScope s_around_of) := ⟨rfl, rfl, rfl, by decide +kernel, rfl, by decide +kernel, by decide +kernel⟩
theorem ok_around {f C CN : Addr} {fd : FuncData} (F : Fun K "around_of" "around_of" s_around_of f fd) (T : FlrC K mg C) (mr : mg "range" = none)
    (J : Met P w K mg base C 3 "near" ["self", "place"] (spNear C CN)) : FnOk P w K mg base CX0 4 f fd ["floor"] (spAround C) := by
  refine F.ok sc_around (fun vs H Q E h => ?_) (fun cdv A outer s H vs Q E hr h => ?_)
  · obtain ⟨F, v, n, ds, rfl, _⟩ := h
    rfl
  · obtain ⟨G, v, n, ds, rfl, hG, hfl, hn, k⟩ := h
    obtain ⟨x, dx, d, rfl, hx, hds⟩ := id hfl
    refine ⟨_, pss_one (ps_ret (pe_lc (own := [("place", 1)]) (g := gName 1) (tt := tYes) rfl sc_around.nd (pi_range1 rfl mr (pa_cons (pe_fld (pv 0) rfl) pa_nil)) (blkOk_by (N := ["floor", "place"]) (sc := defScope s_around_of) (by decide +kernel))
      (fun _ _ _ _ _ => pg_name (i := 1) sc_around.nd rfl (Or.inl rfl)) (fun _ _ _ _ _ => pts_nil) (fun _ _ _ _ _ => pe_mt J T.cl hr (pv 0) (pa_cons (pv 1) pa_nil)))), ?_⟩
    refine ⟨_, rfl, x, C, dx, _, _, rfl, hG _ _ hx, T.cl, T.nP, flds_places _ _, _, rfl, by omega, by omega, fun D hD => ?_⟩
    refine lcv_range (n := (n : Int).toNat) NatL (fun i => some (nearF n ds i)) (fun _ _ _ _ e h => h.ext e) hG hD (by rw [sizeLine_eq]; omega) (fun i F' H' hi g hFD ho Q' q => ?_) fun F' H' ys g h1 h2 => ?_
    · refine cs_yes ?_
      refine ⟨_, rfl, x, dx, _, rfl, g.sub _ _ (g.ss _ _ hx), flds_no _ _ (by decide +kernel) (by decide +kernel), _, rfl, F', _, n, ds, _, rfl, g.sub, hfl.ext g.ss, hn, fun c F2 H2 u g2 hu _ => ?_, fun c => absurd ⟨by omega, by omega⟩ c⟩
      refine q F2 H2 (some u) g2 ?_
      have e1 : (0 + (i : Int)).toNat = i := by omega
      rw [e1] at hu
      exact hu
    · refine k F' H' _ g ⟨D, ys, rfl, h1, ?_⟩
      rw [made_some, Int.toNat_natCast] at h2
      exact h2
end
end CF

namespace CF
open PySem L2 PyProof.Rows
section
variable {P : Program} {w : World} {K : PySem.W.Frag} {mg : Str → Option Value} {base : Heap}
theorem sc_goings : FnScope ["lists", "found", "members", "longer", "some", "member"] ["lists"] (defScope s_goings) := ⟨rfl, rfl, rfl, by decide +kernel, rfl, by decide +kernel, by decide +kernel⟩
theorem ok_goings {f : Addr} {fd : FuncData} (F : Fun K "goings" "goings" s_goings f fd) : FnOk P w K mg base CX0 1 f fd ["lists"] spGoings := by
  refine F.ok sc_goings (fun vs H Q E h => ?_) (fun cdv A outer s H vs Q E hr h => ?_)
  · obtain ⟨F, v, ls, rfl, _⟩ := h
    rfl
  · obtain ⟨G, v, ls, rfl, hG, ⟨a, ys, rfl, ha, hp⟩, hl, hll, k⟩ := h
    refine ⟨_, pss_cons (ps_set (i := 1) sc_goings.nd rfl (.inl rfl) (pe_lst (pa_cons (pe_tup pa_nil) pa_nil)))
      (pss_cons (ps_for PassesOwn.never rfl (pi_list (pv 0)) (pg_name (i := 2) sc_goings.nd rfl (.inl rfl))
        (pss_cons (ps_set (i := 3) sc_goings.nd rfl (.inl rfl) (pe_lst pa_nil))
        (pss_cons (ps_for PassesOwn.never rfl (pi_list (pv 1)) (pg_name (i := 4) sc_goings.nd rfl (.inr rfl))
          (pss_one (ps_expr (pe_bm PySem.F.plainAttrs_list PySem.F.slot_list_extend PySem.F.type_list_extend mt_extend (pv 3) (pa_cons
            (pe_lc (own := [("member", 5)]) (g := gName 5) (tt := tYes) rfl sc_goings.nd (pi_list (pv 2)) (blkOk_by (N := ["lists", "found", "members", "longer", "some", "member"]) (sc := defScope s_goings) (by decide +kernel))
              (fun _ _ _ _ _ => pg_name (i := 5) sc_goings.nd rfl (Or.inl rfl)) (fun _ _ _ _ _ => pts_nil) (fun _ _ _ _ _ => pe_op (r := rCatA K) op_catA (pv 4) (pe_tup (pa_cons (pv 5) pa_nil)))) pa_nil)))))
        (pss_one (ps_set (i := 1) sc_goings.nd rfl (.inl rfl) (pv 3))))))
      (pss_one (ps_ret (pv 1)))), ?_⟩
    refine ⟨(by show 0 ≤ sizeLine; decide), fun t0 ht0 => ⟨(by show 1 ≤ sizeLine; decide), fun p0 hp0 => ?_⟩⟩
    have g0 : Grow G H (upd (upd G t0 (.tup [])) p0 (.lst [.ref t0])) (upd (upd H t0 (.tup [])) p0 (.lst [.ref t0])) := ((Grow.refl hG).alloc _ ht0).alloc _ hp0
    have n0 : t0 ≠ p0 := ne_of_none upd_same hp0
    have f0 : NatTL (upd (upd G t0 (.tup [])) p0 (.lst [.ref t0])) (.ref p0) [[]] := ⟨p0, _, rfl, upd_same, .cons ⟨t0, rfl, by rw [upd_ne n0]; exact upd_same⟩ .nil⟩
    have hp0' : H p0 = none := (same_new _ ht0).free hp0
    -- for members in lists
    refine ⟨_, rfl, a, rfl, ⟨ys, SqL.of (g0.keep _ _ (hG _ _ ha))⟩, for_list (K := K) (a := a) (xs := ys) (fun i σ H' => ∃ (F : Hp) (b : Addr) (o2 o3 o4 o5 : Option V), σ = [some (.ref a), some (.ref b), o2, o3, o4, o5] ∧ Grow G H F H' ∧ H b = none ∧ NatTL F (.ref b) ((ls.take i).foldl goStep [[]]))
      ⟨_, p0, none, none, none, none, rfl, g0, hp0', f0⟩ (fun i σ H' _ ⟨_, _, _, _, _, _, _, g, _⟩ => SqL.of (g.keep _ _ (hG _ _ ha))) ?_ ?_⟩
    · rintro i y σ H1 hi ⟨F, b, o2, o3, o4, o5, rfl, g1, hb, hf⟩
      obtain ⟨l, hli, hy⟩ := paired_get' hp hi
      have step : (ls.take (i + 1)).foldl goStep [[]] = goStep ((ls.take i).foldl goStep [[]]) l := by
        rw [take_snoc hli, List.foldl_append]
        rfl
      have hll1 : l.length ≤ 100 := hll l (List.mem_of_getElem? hli)
      have hi2 : i < ls.length := (List.getElem?_eq_some_iff.mp hli).1
      have hfl : ((ls.take i).foldl goStep [[]]).length ≤ 100 := by
        have h1 := go_len (ls.take i) [[]] fun x hx => hll x (List.mem_of_mem_take hx)
        have h2 : (ls.take i).length ≤ 1 := by
          rw [List.length_take]
          omega
        have h3 : 100 ^ (ls.take i).length ≤ 100 ^ 1 := Nat.pow_le_pow_right (by decide) h2
        simp only [List.length_cons, List.length_nil] at h1
        omega
      have hsl : ∀ s ∈ (ls.take i).foldl goStep [[]], s.length ≤ 2 := fun s hs => by
        have h1 := go_mem (ls.take i) [[]] 0 (fun s hs => by rw [List.mem_singleton] at hs; rw [hs]; rfl) s hs
        have h2 : (ls.take i).length ≤ i := by
          rw [List.length_take]
          omega
        omega
      generalize (ls.take i).foldl goStep [[]] = fs at step hf hfl hsl
      obtain ⟨b', zs, eb, hzs, hpz⟩ := hf
      cases eb
      obtain ⟨am, rfl, hm⟩ := hy.ext g1.ss
      -- longer = []
      refine ⟨(by show 0 ≤ sizeLine; decide), fun l0 hl0 => ?_⟩
      have Fl0 : F l0 = none := g1.sub.free hl0
      have Hl0 : H l0 = none := g1.keep.free hl0
      have gi : Grow F (upd H1 l0 (.lst [])) F (upd H1 l0 (.lst [])) := Grow.refl (g1.sub.trans (same_new _ hl0))
      have gG : Grow G H F (upd H1 l0 (.lst [])) := g1.hid _ hl0
      -- for some in found
      refine ⟨_, rfl, b, rfl, ⟨zs, SqL.of (gi.sub _ _ hzs)⟩, for_list (K := K) (a := b) (xs := zs) (fun j σ H' => ∃ (F' : Hp) (acc : List V) (o4 o5 : Option V), σ = [some (.ref a), some (.ref b), some (.ref am), some (.ref l0), o4, o5] ∧ Grow G H F' H' ∧ Same F F' ∧ F' l0 = none ∧ H' l0 = some (.lst acc) ∧ Paired (NatT F') acc (goStep (fs.take j) l))
        ⟨F, [], _, _, rfl, gG, Same.refl _, Fl0, upd_same, .nil⟩ (fun j σ H' _ ⟨F', _, _, _, _, g, ss, _⟩ => SqL.of (g.sub _ _ (ss _ _ hzs))) ?_ ?_⟩
      · rintro j z σ H2 hj ⟨F2, acc, o6, o7, rfl, g2, ss2, Fl2, hl2, hpa⟩
        obtain ⟨s0, hs0, hz⟩ := paired_get' hpz hj
        have hz2 := hz.ext ss2
        refine ⟨_, rfl, .inl ⟨rfl, _, SqL.of hl2⟩, _, rfl, am, rfl, ⟨_, SqL.of (g2.sub _ _ (ss2 _ _ hm))⟩, fun D hD => ?_⟩
        refine lcv_list (xs := l.map nv) NatT (fun i => (l[i]?).map fun m => s0 ++ [m]) (fun _ _ _ _ e h => h.ext e) g2.sub (SqL.of (ss2 _ _ hm)) hD (by rw [List.length_map, sizeLine_eq]; omega) (fun k x F3 H3 hk g3 hFD ho Q' q => ?_) fun F' H' ws g3 h1 h2 => ?_
        · obtain ⟨m, hm', rfl⟩ := getElem?_map_nv hk
          refine cs_yes ?_
          obtain ⟨tz, rfl, htz⟩ := hz2.ext g3.ss
          refine ⟨_, rfl, _, rfl, (by show 1 ≤ sizeLine; decide), fun t ht => ?_⟩
          have g4 := (Grow.refl g3.sub).alloc (.tup [nv m]) ht
          have e0 : (fun m => s0 ++ [m]) <$> some m = some (s0 ++ [m]) := rfl
          refine ⟨tz, t, s0.map nv, [nv m], rfl, rfl, SqT.of (g4.sub _ _ (g4.ss _ _ htz)), SqT.of upd_same, (by rw [List.length_map, sizeLine_eq]; have := hsl s0 (List.mem_of_getElem? hs0); simp; omega), fun e => ?_, fun _ e => by simp at e, fun _ _ p hp' => ?_⟩
          · refine q _ _ (some (.ref t)) g4 ?_
            rw [hm']
            refine ⟨t, rfl, ?_⟩
            have : s0 = [] := by simpa using e
            rw [this]
            exact upd_same
          · refine q _ _ (some (.ref p)) (g4.alloc (.tup (s0.map nv ++ [nv m])) hp') ?_
            rw [hm']
            refine ⟨p, rfl, ?_⟩
            rw [List.map_append]
            exact upd_same
        · rw [List.length_map, made_get] at h2
          have hl3 := g3.keep _ _ hl2
          have hlF : F' l0 = none := g3.out hl2 Fl2
          have hD' := g3.sub _ _ h1
          have hal : acc.length ≤ 10000 := by
            rw [paired_len hpa, flatMap_len]
            have h3 : (fs.take j).length ≤ 100 := by
              rw [List.length_take]
              omega
            exact Nat.mul_le_mul h3 hll1
          have hwl : ws.length ≤ 100 := by
            rw [paired_len h2, List.length_map]
            exact hll1
          refine ⟨l0, D, acc, ws, rfl, rfl, hl3, hD', by rw [sizeLine_eq]; omega, ?_⟩
          refine ⟨F', acc ++ ws, _, _, rfl, (g2.trans g3).mut _ hlF Hl0, ss2.trans g3.ss, hlF, upd_same, ?_⟩
          rw [take_snoc hs0]
          unfold goStep
          rw [List.flatMap_append]
          refine paired_app (paired_ext (fun _ _ h => h.ext g3.ss) hpa) ?_
          simpa using h2
      · rintro σ H2 ⟨F2, acc, o6, o7, rfl, g2, ss2, Fl2, hl2, hpa⟩
        rw [paired_len hpz, List.take_length] at hpa
        refine ⟨_, rfl, upd F2 l0 (.lst acc), l0, _, _, _, _, rfl, g2.fix hl2 Fl2 Hl0, Hl0, l0, acc, rfl, upd_same, ?_⟩
        rw [step]
        exact paired_ext (fun _ _ h => h.ext (same_new _ Fl2)) hpa
    · rintro σ H1 ⟨F, b, o2, o3, o4, o5, rfl, g1, hb, hf⟩
      rw [paired_len hp, List.take_length] at hf
      exact ⟨_, rfl, k F H1 _ g1 hf ⟨b, rfl, hb⟩⟩
end
end CF

namespace CF
open PySem L2 PyProof.Rows
section
variable {P : Program} {w : World} {K : PySem.W.Frag} {mg : Str → Option Value} {base : Heap}
theorem sc_behind : FnScope ["around", "ranks", "chasers", "runner", "greatest", "place"] ["around", "ranks", "chasers", "runner"] (defScope s_behind) := ⟨rfl, rfl, rfl, by decide +kernel, rfl, by decide +kernel, by decide +kernel⟩
theorem ok_behind {f : Addr} {fd : FuncData} (F : Fun K "behind" "behind" s_behind f fd) (mx : mg "max" = none) : FnOk P w K mg base CX0 1 f fd ["around", "ranks", "chasers", "runner"] (spBehind P w) := by
  refine F.ok sc_behind (fun vs H Q E h => ?_) (fun cdv A outer s H vs Q E hr h => ?_)
  · obtain ⟨F, v, ar, a, L, b, u, g, r, rfl, _⟩ := h
    rfl
  · obtain ⟨G, v, ar, a, L, b, u, g, r, rfl, hG, ⟨av, ys, rfl, hav, hp⟩, hrk, ⟨tu, rfl, htu⟩, hr', k⟩ := h
    have hu := hr.units
    refine ⟨_, pss_cons (ps_if (pt_cmpR op_in_seq (pv 3) (pv 2) rfl) (pss_one (ps_ret pe_int)) pss_nil)
      (pss_cons (ps_set (i := 4) sc_behind.nd rfl (.inl rfl) pe_int)
      (pss_cons (ps_for PassesOwn.never rfl (pi_list (pe_ix ix_list (pv 0) (pv 3) (fun _ _ => rfl))) (pg_name (i := 5) sc_behind.nd rfl (.inl rfl))
        (pss_cons (ps_if (pt_cmp (pc_nnotin hu (pe_tup (pa_cons (pv 2) (pa_cons (pv 5) pa_nil))) (pv 1)) rfl) (pss_one (ps_ret pe_non)) pss_nil)
        (pss_one (ps_set (i := 4) sc_behind.nd rfl (.inl rfl) (pe_callB (call_max2 rfl) (by rfl) mx PyProof.Rows.boot_max (pa_cons (pv 4) (pa_cons (pe_nget hu (pv 1) (pe_tup (pa_cons (pv 2) (pa_cons (pv 5) pa_nil))) (fun _ _ => rfl)) pa_nil)))))))
      (pss_one (ps_ret (pv 4))))), ?_⟩
    have htH := hG _ _ htu
    rw [nvs_intsV] at htH
    refine ⟨_, rfl, _, rfl, tu, _, rfl, .inr (SqT.of htH), rfl, flat_intsV _, ?_⟩
    rw [show nv r = V.int (r : Int) from rfl, inV_intsV]
    by_cases c : r ∈ g
    · refine ⟨_, rfl, iteDT (mem_asI.mpr c) ?_⟩
      have e : V.int 0 = opN (behF (ar.getD r []) L g r) := by
        unfold behF
        rw [if_pos c]
        rfl
      show Q (V.int 0) H
      rw [e]
      exact k G H (Grow.refl hG)
    refine ⟨_, rfl, iteDF (fun z => c (mem_asI.mp z)) ?_⟩
    -- for place in around[runner]
    obtain ⟨y, hy, al, rfl, hal⟩ := paired_getE hp hr'
    have ear : ar.getD r [] = ar[r] := by simp [hr']
    have eb : behF (ar.getD r []) L g r = (ar[r]).foldl (behStep L g) (some 0) := by
      unfold behF
      rw [if_neg c, ear]
    rw [eb] at k
    generalize ar[r] = nr at k hal
    refine ⟨_, rfl, _, rfl, av, ys, _, _, rfl, rfl, SqL.of (hG _ _ hav), atI_nat hy, al, rfl, ⟨_, SqL.of (hG _ _ hal)⟩, ?_⟩
    refine for_list (K := K) (a := al) (xs := nr.map nv) (fun i σ H' => ∃ (m : Nat) (o : Option V) (F : Hp), σ = [some (.ref av), some (.ref a), some (.ref tu), some (V.int (r : Int)), some (V.int (m : Int)), o] ∧ Grow G H F H' ∧ (nr.take i).foldl (behStep L g) (some 0) = some m)
      ⟨0, none, G, rfl, Grow.refl hG, rfl⟩ (fun i σ H' _ ⟨_, _, _, _, g1, _⟩ => SqL.of (g1.sub _ _ (g1.ss _ _ hal))) ?_ ?_
    · rintro i y' σ H1 hi ⟨m, o, F1, rfl, g1, hm⟩
      obtain ⟨p, hpi, rfl⟩ := getElem?_map_nv hi
      have step : (nr.take (i + 1)).foldl (behStep L g) (some 0) = behStep L g (some m) p := by
        rw [take_snoc hpi, List.foldl_append, hm]
        rfl
      -- (chasers, place) not in ranks
      refine ⟨_, rfl, _, rfl, (by show 2 ≤ sizeLine; decide), fun t ht => ?_⟩
      have g2 := g1.alloc (.tup [.ref tu, nv p]) ht
      obtain ⟨kvs, hkv, hlen, hL⟩ := hrk.ext g2.keep
      have hk : NAt (upd H1 t (.tup [.ref tu, nv p])) t (asI g, (p : Int)) := ⟨tu, upd_same, by rw [asI_nv]; exact g2.sub _ _ (g2.ss _ _ htu)⟩
      refine ⟨_, rfl, a, t, _, kvs, rfl, rfl, hkv, hk, _, rfl, ?_⟩
      rw [hL]
      cases hLg : L g p with
      | none =>
        refine iteT ?_
        have e : (nr.foldl (behStep L g) (some 0)) = none := by
          have h1 : nr = nr.take (i + 1) ++ nr.drop (i + 1) := (List.take_append_drop _ _).symm
          rw [h1, List.foldl_append, step]
          unfold behStep
          rw [hLg]
          exact behNone _ _ _
        rw [e] at k
        exact k _ _ g2
      | some kk =>
        refine iteF ?_
        refine ⟨_, rfl, _, rfl, _, rfl, _, rfl, (by show 2 ≤ sizeLine; decide), fun t2 ht2 => ?_⟩
        have g3 := g2.alloc (.tup [.ref tu, nv p]) ht2
        obtain ⟨kvs2, hkv2, hlen2, hL2⟩ := hrk.ext g3.keep
        have hk2 : NAt (upd (upd H1 t (.tup [.ref tu, nv p])) t2 (.tup [.ref tu, nv p])) t2 (asI g, (p : Int)) := ⟨tu, upd_same, by rw [asI_nv]; exact g3.sub _ _ (g3.ss _ _ htu)⟩
        refine ⟨a, t2, _, kvs2, (kk : Int), rfl, rfl, hkv2, hk2, by rw [hL2, hLg]; rfl, _, _, rfl, ?_⟩
        refine ⟨if kk > m then kk else m, some (nv p), _, ?_, g3, ?_⟩
        · have e : (if (kk : Int) > (m : Int) then (kk : Int) else (m : Int)) = ((if kk > m then kk else m : Nat) : Int) := by
            by_cases c : kk > m
            · rw [if_pos c, if_pos (by omega)]
            · rw [if_neg c, if_neg (by omega)]
          rw [← e]
          rfl
        · rw [step]
          unfold behStep
          rw [hLg]
    · rintro σ H1 ⟨m, o, F1, rfl, g1, hm⟩
      rw [List.length_map, List.take_length] at hm
      rw [hm] at k
      exact ⟨_, rfl, k _ _ g1⟩
end
end CF

namespace CF
open PySem L2 PyProof.Rows
section
variable {P : Program} {w : World} {K : PySem.W.Frag} {mg : Str → Option Value} {base : Heap}
theorem sc_more : FnScope ["around", "ranks", "known", "found", "chasers", "runner", "goal"] ["around", "ranks", "known"] (defScope s_more_of) := ⟨rfl, rfl, rfl, by decide +kernel, rfl, by decide +kernel, by decide +kernel⟩
theorem ok_more {f : Addr} {fd : FuncData} (F : Fun K "more_of" "more_of" s_more_of f fd) (mr : mg "range" = none) (ml : mg "len" = none)
    (B : Cal P w K mg base 1 "behind" ["around", "ranks", "chasers", "runner"] (spBehind P w)) : FnOk P w K mg base CX0 2 f fd ["around", "ranks", "known"] (spMore P w) := by
  refine F.ok sc_more (fun vs H Q E h => ?_) (fun cdv A outer s H vs Q E hr h => ?_)
  · obtain ⟨F, v, ar, a, L, b, d, ks, rfl, _⟩ := h
    rfl
  · obtain ⟨G, v, ar, a, L, b, d, ks, rfl, hG, hnl, hrk, ⟨kvs, hd, hknd, hkp⟩, Gd, hks, har, k⟩ := h
    obtain ⟨av, ys, rfl, hav, hp⟩ := id hnl
    have hu := hr.units
    have hu1 := hu_of hr
    refine ⟨_, pss_cons (ps_set (i := 3) sc_more.nd rfl (.inl rfl) (pe_lst pa_nil))
      (pss_cons (ps_lock (ps_for PassesOwn.never rfl (pi_keys (pv 2)) (pg_name (i := 4) sc_more.nd rfl (.inl rfl))
        (pss_one (ps_for PassesOwn.never rfl (pi_range1 rfl mr (pa_cons (pe_callB call_len_seq (by rfl) ml PySem.boot_len (pa_cons (pv 0) pa_nil)) pa_nil)) (pg_name (i := 5) sc_more.nd rfl (.inl rfl))
          (pss_one (ps_if (pt_cmp (pc_nnotin hu (pe_tup (pa_cons (pv 4) (pa_cons (pv 5) pa_nil))) (pv 1)) rfl)
            (pss_one (ps_for PassesOwn.never rfl (pi_list (pe_dget hu1 (pv 2) (pv 4) (fun _ _ => rfl))) (pg_name (i := 6) sc_more.nd rfl (.inl rfl))
              (pss_one (ps_if (pt_cmp (pc_notN (pe_cl B hr rfl (pa_cons (pv 0) (pa_cons (pv 1) (pa_cons (pv 6) (pa_cons (pv 5) pa_nil)))))))
                (pss_cons (ps_expr (pe_bm PySem.F.plainAttrs_list PySem.F.slot_list_append PySem.F.type_list_append mt_append (pv 3) (pa_cons (pe_tup (pa_cons (pv 4) (pa_cons (pv 5) pa_nil))) pa_nil))) (pss_one ps_break)) pss_nil))))
            pss_nil))))))
      (pss_one (ps_ret (pv 3)))), ?_⟩
    refine ⟨(by show 0 ≤ sizeLine; decide), fun l0 hl0 => ?_⟩
    have nd0 : d ≠ l0 := ne_of_none hd hl0
    have Gl0 : G l0 = none := hG.free hl0
    -- the lock
    refine ⟨d, .dT kvs, by rw [upd_ne nd0]; exact hd, True.intro, fun od => ?_⟩
    rw [upd_comm nd0.symm]
    generalize hHB : upd H d (.frz od (.dT kvs)) = HB
    have gB : Same G HB := fun x o e => by
      rw [← hHB, upd_ne (ne_of_none e Gd)]
      exact hG _ _ e
    have rkB : RkH P w HB a L b := by
      rw [← hHB]
      exact hrk.lock hd _
    have dB : HB d = some (.frz od (.dT kvs)) := by rw [← hHB]; exact upd_same
    have lBn : HB l0 = none := by rw [← hHB, upd_ne nd0.symm]; exact hl0
    have g0 : Grow G HB G (upd HB l0 (.lst [])) := (Grow.refl gB).hid _ lBn
    refine ⟨_, rfl, d, od, rfl, .inr ⟨kvs, g0.keep _ _ dB, ?_⟩⟩
    refine for_keysT (d := d) (o := od) (kvs := kvs) (fun i σ H' => ∃ (F : Hp) (acc : List V) (o4 o5 o6 : Option V), σ = [some (.ref av), some (.ref a), some (.ref d), some (.ref l0), o4, o5, o6] ∧ Grow G HB F H' ∧ F l0 = none ∧ H' l0 = some (.lst acc) ∧ Paired (StT F) acc (moreF ar L (ks.take i)))
      ⟨G, [], none, none, none, rfl, g0, Gl0, upd_same, .nil⟩ (fun i σ H' _ ⟨_, _, _, _, _, _, g, _⟩ => g.keep _ _ dB) ?_ ?_
    · rintro i kk v q σ H1 hkv hq ⟨F1, acc, o4, o5, o6, rfl, g1, Fl1, hl1, hpa⟩
      obtain ⟨kn, hkn, ek, hgs⟩ := paired_get' hkp hkv
      have ek : kk = (asI kn.1).map Sum.inl := ek
      subst ek
      have hgs : NatTL G v kn.2 := hgs
      rw [kV_asI] at hq
      have g1q := g1.tupl hq
      have nql : l0 ≠ q := ne_of hl1 hq (by intro z; cases z)
      rw [moreF_snoc ar L hkn]
      -- for runner in range(len(around))
      refine ⟨_, rfl, av, ys, rfl, .inl (SqL.of (g1.sub _ _ (g1.ss _ _ hav))), (ys.length : Int), rfl, by omega, by have := paired_len hp; omega, ?_⟩
      refine for_range (lo := 0) (n := (ys.length : Int).toNat) (fun j σ H' => ∃ (F : Hp) (acc : List V) (o5 o6 : Option V), σ = [some (.ref av), some (.ref a), some (.ref d), some (.ref l0), some (.ref q), o5, o6] ∧ Grow G HB F H' ∧ F l0 = none ∧ F q = some (.tup (kn.1.map nv)) ∧ H' l0 = some (.lst acc) ∧
          Paired (StT F) acc (moreF ar L (ks.take i) ++ ((List.range j).filter fun r => (L kn.1 r).isNone && winB ar L kn.2 r).map fun r => (kn.1, r)))
        ⟨upd F1 q (.tup (kn.1.map nv)), acc, _, _, rfl, g1q, by rw [upd_ne nql]; exact Fl1, upd_same, hl1, by
          rw [List.range_zero, List.filter_nil, List.map_nil, List.append_nil]
          exact paired_ext (fun _ _ h => h.ext (Grow.tupl_ss g1.sub hq)) hpa⟩ ?_ ?_
      · rintro j σ H2 hj ⟨F2, acc2, o7, o8, rfl, g2, Fl2, hq2, hl2, hpa2⟩
        rw [Int.toNat_natCast] at hj
        have hjr : j < ar.length := by have := paired_len hp; omega
        rw [Int.zero_add]
        rw [filter_range_succ]
        -- (chasers, runner) not in ranks
        refine ⟨_, rfl, _, rfl, (by show 2 ≤ sizeLine; decide), fun t ht => ?_⟩
        have g3 := g2.alloc (.tup [.ref q, nv j]) ht
        have ntl : l0 ≠ t := ne_of_none hl2 ht
        obtain ⟨kvs3, hkv3, hlen3, hL3⟩ := rkB.ext g3.keep
        refine ⟨_, rfl, a, t, (asI kn.1, (j : Int)), kvs3, rfl, rfl, hkv3, ⟨q, upd_same, by rw [asI_nv, upd_ne (ne_of_none (g2.sub _ _ hq2) ht)]; exact g2.sub _ _ hq2⟩, _, rfl, ?_⟩
        rw [hL3]
        generalize he : ((L kn.1 j).isNone && winB ar L kn.2 j) = e0
        have back : ∀ (F' H' : Hp) (acc' : List V) (s5 s6 : Option V), Grow G HB F' H' → F' l0 = none → F' q = some (.tup (kn.1.map nv)) → H' l0 = some (.lst acc') →
            Paired (StT F') acc' (moreF ar L (ks.take i) ++ ((List.range j).filter fun r => (L kn.1 r).isNone && winB ar L kn.2 r).map (fun r => (kn.1, r)) ++ (if e0 = true then [(kn.1, j)] else [])) →
            ∃ (F : Hp) (acc : List V) (o5 o6 : Option V), [some (V.ref av), some (.ref a), some (.ref d), some (.ref l0), some (.ref q), s5, s6] = [some (.ref av), some (.ref a), some (.ref d), some (.ref l0), some (.ref q), o5, o6] ∧ Grow G HB F H' ∧ F l0 = none ∧ F q = some (.tup (kn.1.map nv)) ∧ H' l0 = some (.lst acc) ∧
              Paired (StT F) acc (moreF ar L (ks.take i) ++ ((List.range j).filter (fun r => (L kn.1 r).isNone && winB ar L kn.2 r) ++ (if e0 = true then [j] else [])).map fun r => (kn.1, r)) :=
          fun F' H' acc' s5 s6 gg f1 f2 f3 pp => ⟨F', acc', _, _, rfl, gg, f1, f2, f3, by
            rw [List.map_append, ← List.append_assoc]
            cases e0 <;> exact pp⟩
        have hpa3 : Paired (StT (upd F2 t (.tup [.ref q, nv j]))) acc2 (moreF ar L (ks.take i) ++ ((List.range j).filter fun r => (L kn.1 r).isNone && winB ar L kn.2 r).map fun r => (kn.1, r)) :=
          paired_ext (fun _ _ h => h.ext (same_new _ (g2.sub.free ht))) hpa2
        have hq3 : (upd F2 t (.tup [.ref q, nv j])) q = some (.tup (kn.1.map nv)) := same_new _ (g2.sub.free ht) _ _ hq2
        have Fl3 : (upd F2 t (.tup [.ref q, nv j])) l0 = none := by rw [upd_ne ntl]; exact Fl2
        have hl3 : (upd H2 t (.tup [.ref q, nv j])) l0 = some (.lst acc2) := by rw [upd_ne ntl]; exact hl2
        cases hLc : L kn.1 j with
        | some z =>
          refine iteF ?_
          have e1 : e0 = false := by rw [← he, hLc]; rfl
          subst e1
          exact back _ _ acc2 _ _ g3 Fl3 hq3 hl3 (by rw [if_neg (by decide), List.append_nil]; exact hpa3)
        | none =>
          refine iteT ?_
          -- for goal in known[chasers]
          obtain ⟨ga, zs, rfl, hga, hpz⟩ := id hgs
          refine ⟨_, rfl, _, rfl, d, .ref ga, rfl, .inr ⟨kvs, _, q, .inr ⟨od, g3.keep _ _ dB⟩, rfl, by rw [kV_asI]; exact g3.sub _ _ hq3, (valV_nd hknd hkv).symm⟩, ga, rfl, ⟨zs, SqL.of (g3.sub _ _ (g3.ss _ _ hga))⟩, ?_⟩
          refine for_list (K := K) (a := ga) (xs := zs) (fun m σ H' => ∃ (F : Hp) (o6 : Option V), σ = [some (.ref av), some (.ref a), some (.ref d), some (.ref l0), some (.ref q), some (V.int (j : Int)), o6] ∧ Grow G HB F H' ∧ F l0 = none ∧ F q = some (.tup (kn.1.map nv)) ∧ H' l0 = some (.lst acc2) ∧
              Paired (StT F) acc2 (moreF ar L (ks.take i) ++ ((List.range j).filter fun r => (L kn.1 r).isNone && winB ar L kn.2 r).map fun r => (kn.1, r)) ∧ ∀ (m' : Nat) (g : List Nat), m' < m → kn.2[m']? = some g → (behF (ar.getD j []) L g j).isSome = false)
            ⟨_, _, rfl, g3, Fl3, hq3, hl3, hpa3, fun m' g hm => absurd hm (Nat.not_lt_zero m')⟩ (fun m σ H' _ ⟨_, _, _, g, _⟩ => SqL.of (g.sub _ _ (g.ss _ _ hga))) ?_ ?_
          · rintro m z σ H4 hm ⟨F4, o9, rfl, g4, Fl4, hq4, hl4, hpa4, hno⟩
            obtain ⟨gg, hgg, hz⟩ := paired_get' hpz hm
            refine ⟨_, rfl, _, rfl, _, rfl, _, rfl, F4, _, ar, a, L, b, _, gg, j, rfl, g4.sub, hnl.ext g4.ss, rkB.ext g4.keep, hz.ext g4.ss, hjr, fun F5 H5 g5 => ⟨_, rfl, ?_⟩⟩
            have g6 := g4.trans g5
            have Fl5 : F5 l0 = none := g5.out hl4 Fl4
            have hl5 := g5.keep _ _ hl4
            have hq5 := g5.ss _ _ hq4
            have hpa5 := paired_ext (R := StT) (fun _ _ h => h.ext g5.ss) hpa4
            rw [opN_non]
            cases hb : (behF (ar.getD j []) L gg j).isSome with
            | false =>
              refine iteF ⟨F5, _, rfl, g6, Fl5, hq5, hl5, hpa5, fun m' g hlt e => ?_⟩
              by_cases c : m' = m
              · subst c
                rw [hgg] at e
                cases e
                exact hb
              · exact hno m' g (by omega) e
            | true =>
              refine iteT ?_
              -- found.append((chasers, runner)); break
              refine ⟨_, rfl, .inl ⟨rfl, _, SqL.of hl5⟩, _, rfl, _, rfl, (by show 2 ≤ sizeLine; decide), fun t5 ht5 => ?_⟩
              have g7 := g6.alloc (.tup [.ref q, nv j]) ht5
              have ntl5 : l0 ≠ t5 := ne_of_none hl5 ht5
              have Fl7 : (upd F5 t5 (.tup [.ref q, nv j])) l0 = none := by rw [upd_ne ntl5]; exact Fl5
              refine ⟨l0, acc2, .ref t5, rfl, rfl, by rw [upd_ne ntl5]; exact hl5, ?_, ?_⟩
              · have h1 := paired_len hpa5
                rw [List.length_append, List.length_map] at h1
                have h2 := moreF_len ar L (ks.take i)
                have h3 : (ks.take i).length * ar.length ≤ 10000 * 100 := Nat.mul_le_mul (by rw [List.length_take]; omega) har
                have h4 := List.length_filter_le (fun r => (L kn.1 r).isNone && winB ar L kn.2 r) (List.range j)
                rw [List.length_range] at h4
                rw [sizeLine_eq]
                omega
              · have e1 : e0 = true := by
                  rw [← he, hLc]
                  show winB ar L kn.2 j = true
                  unfold winB
                  rw [List.any_eq_true]
                  exact ⟨gg, List.mem_of_getElem? hgg, hb⟩
                subst e1
                refine back _ _ (acc2 ++ [.ref t5]) _ _ (g7.mut _ Fl7 lBn) Fl7 (same_new _ (g5.sub.free ht5) _ _ hq5) upd_same ?_
                rw [if_pos rfl]
                refine paired_app (paired_ext (fun _ _ h => h.ext (same_new _ (g5.sub.free ht5))) hpa5) (.cons ⟨t5, q, rfl, upd_same, ?_⟩ .nil)
                exact same_new _ (g5.sub.free ht5) _ _ hq5
          · rintro σ H4 ⟨F4, o9, rfl, g4, Fl4, hq4, hl4, hpa4, hno⟩
            have e1 : e0 = false := by
              rw [← he, hLc]
              show winB ar L kn.2 j = false
              exact any_take_none fun m' g e => hno m' g (by rw [paired_len hpz]; exact (List.getElem?_eq_some_iff.mp e).1) e
            subst e1
            exact back _ _ acc2 _ _ g4 Fl4 hq4 hl4 (by rw [if_neg (by decide), List.append_nil]; exact hpa4)
      · rintro σ H2 ⟨F2, acc2, o7, o8, rfl, g2, Fl2, hq2, hl2, hpa2⟩
        rw [Int.toNat_natCast, paired_len hp] at hpa2
        exact ⟨F2, acc2, _, _, _, rfl, g2, Fl2, hl2, hpa2⟩
    · rintro σ H1 ⟨F1, acc, o4, o5, o6, rfl, g1, Fl1, hl1, hpa⟩
      rw [paired_len hkp, List.take_length] at hpa
      have Fd1 : F1 d = none := g1.out dB Gd
      have nl : l0 ≠ d := nd0.symm
      rw [← hHB] at g1 lBn
      have g2 := Grow.unlock hd (g1.fix hl1 Fl1 lBn) (by rw [upd_ne nd0]; exact Fd1)
      refine ⟨g1.keep _ _ (by rw [upd_same]), _, rfl, k _ _ _ g2 ⟨l0, acc, rfl, upd_same, paired_ext (fun _ _ h => h.ext (same_new _ Fl1)) hpa⟩⟩
end
end CF

namespace CF
open PySem L2 PyProof.Rows
section
variable {P : Program} {w : World} {K : PySem.W.Frag} {mg : Str → Option Value} {base : Heap}
theorem sc_ranks : FnScope ["floor", "count", "around", "known", "ranks", "chasers", "place", "turn", "more", "standing", "k"] ["floor", "count"] (defScope s_all_ranks) := ⟨rfl, rfl, rfl, by decide +kernel, rfl, by decide +kernel, by decide +kernel⟩
theorem ok_ranks {f C : Addr} {fd : FuncData} (F : Fun K "all_ranks" "all_ranks" s_all_ranks f fd) (T : FlrC K mg C) (mr : mg "range" = none) (ml : mg "len" = none) (mls : mg "list" = none)
    (AR : Cal P w K mg base 4 "around_of" ["floor"] (spAround C)) (GO : Cal P w K mg base 1 "goings" ["lists"] spGoings) (MO : Cal P w K mg base 2 "more_of" ["around", "ranks", "known"] (spMore P w)) :
    FnOk P w K mg base CX0 5 f fd ["floor", "count"] (spRanks P w C) := by
  refine F.ok sc_ranks (fun vs H Q E h => ?_) (fun cdv A outer s H vs Q E hr h => ?_)
  · obtain ⟨F, v, n, ds, c, rfl, _⟩ := h
    rfl
  · obtain ⟨G, v, n, ds, c, rfl, hG, hfl, hn, hc, k⟩ := h
    obtain ⟨x, dx, d, rfl, hx, hds⟩ := id hfl
    have hu := hr.units
    have hu1 := hu_of hr
    refine ⟨_, pss_cons (ps_set (i := 2) sc_ranks.nd rfl (.inr rfl) (pe_cl AR hr rfl (pa_cons (pv 0) pa_nil)))
      (pss_cons (ps_set (i := 3) sc_ranks.nd rfl (.inl rfl) pe_dnewT)
      (pss_cons (ps_set (i := 4) sc_ranks.nd rfl (.inl rfl) pe_nnew)
      (pss_cons (ps_for PassesOwn.never rfl (pi_list (pe_cl GO hr rfl (pa_cons
          (pe_lc (own := [("k", 10)]) (g := gName 10) (tt := tYes) rfl sc_ranks.nd (pi_range1 rfl mr (pa_cons (pv 1) pa_nil)) (blkOk_by (N := ["floor", "count", "around", "known", "ranks", "chasers", "place", "turn", "more", "standing", "k"]) (sc := defScope s_all_ranks) (by decide +kernel))
            (fun _ _ _ _ _ => pg_name (i := 10) sc_ranks.nd rfl (Or.inl rfl)) (fun _ _ _ _ _ => pts_nil) (fun _ _ _ _ _ => pe_listRg (te := tRg1 (tFld K (tVar 0) "places")) rfl rfl mls (prg_1 (ta := tFld K (tVar 0) "places") rfl mr (pe_fld (pv 0) rfl)))) pa_nil)))
          (pg_name (i := 5) sc_ranks.nd rfl (.inl rfl))
        (pss_cons (ps_dput hu1 (pv 3) (pv 5) (pe_cl GO hr rfl (pa_cons
          (pe_lc (own := [("place", 6)]) (g := gName 6) (tt := tYes) rfl sc_ranks.nd (pi_tup (pv 5)) (blkOk_by (N := ["floor", "count", "around", "known", "ranks", "chasers", "place", "turn", "more", "standing", "k"]) (sc := defScope s_all_ranks) (by decide +kernel))
            (fun _ _ _ _ _ => pg_name (i := 6) sc_ranks.nd rfl (Or.inl rfl)) (fun _ _ _ _ _ => pts_nil) (fun _ _ _ _ _ => pe_ix (r := rIxL K) ix_list (pv 2) (pv 6) (fun _ _ => rfl))) pa_nil)) rfl)
        (pss_one (ps_for PassesOwn.never rfl (pi_tup (pv 5)) (pg_name (i := 6) sc_ranks.nd rfl (.inl rfl))
          (pss_one (ps_nput hu (pv 4) (pe_tup (pa_cons (pv 5) (pa_cons (pv 6) pa_nil))) pe_int rfl))))))
      (pss_cons (ps_set (i := 7) sc_ranks.nd rfl (.inl rfl) pe_int)
      (pss_cons (ps_set (i := 8) sc_ranks.nd rfl (.inl rfl) (pe_cl MO hr rfl (pa_cons (pv 2) (pa_cons (pv 4) (pa_cons (pv 3) pa_nil)))))
      (pss_cons (ps_while PassesOwn.never (pt_cmpR op_gt (pe_callB call_len_seq (by rfl) ml PySem.boot_len (pa_cons (pv 8) pa_nil)) pe_int (nomark _))
        (pss_cons (ps_for PassesOwn.never rfl (pi_list (pv 8)) (pg_name (i := 9) sc_ranks.nd rfl (.inl rfl))
          (pss_one (ps_nput hu (pv 4) (pv 9) (pv 7) rfl)))
        (pss_cons (ps_set (i := 7) sc_ranks.nd rfl (.inl rfl) (pe_op op_add (pv 7) pe_int))
        (pss_one (ps_set (i := 8) sc_ranks.nd rfl (.inl rfl) (pe_cl MO hr rfl (pa_cons (pv 2) (pa_cons (pv 4) (pa_cons (pv 3) pa_nil)))))))))
      (pss_one (ps_ret (pv 4))))))))), ?_⟩
    refine ⟨_, rfl, G, _, n, ds, rfl, hG, hfl, by omega, fun F1 H1 u1 g1 har => ?_⟩
    obtain ⟨av, ys, rfl, hav, hp⟩ := id har
    -- known = {}; ranks = {}
    intro kd hkd rd ro hrd hro
    have hrd1 : H1 rd = none := (same_new _ hkd).free hrd
    have nkr : kd ≠ rd := fun e => by rw [← e, upd_same] at hrd; cases hrd
    have Fk1 : F1 kd = none := g1.sub.free hkd
    have Fr1 : F1 rd = none := g1.sub.free hrd1
    have Hk0 : H kd = none := g1.keep.free hkd
    have Hr0 : H rd = none := g1.keep.free hrd1
    have g2 : Grow G H F1 (upd (upd H1 kd (.dT [])) rd ro) := (g1.hid _ hkd).hid _ hrd
    have kn2 : (upd (upd H1 kd (.dT [])) rd ro) kd = some (.dT []) := by rw [upd_ne nkr]; exact upd_same
    have rk2 : RkH P w (upd (upd H1 kd (.dT [])) rd ro) rd (fun _ _ => none) 0 := RkH.new hro 0
    generalize upd (upd H1 kd (.dT [])) rd ro = H2 at g2 kn2 rk2
    -- goings([list(range(floor.places)) for k in range(count)])
    refine ⟨_, rfl, (c : Int), rfl, by omega, by omega, fun D hD => ?_⟩
    refine lcv_range (n := (c : Int).toNat) NatL (fun _ => some (List.range n)) (fun _ _ _ _ e h => h.ext e) g2.sub hD (by rw [sizeLine_eq]; omega) (fun i F' H' hi g hFD ho Q' q => ?_) fun F3 H3 ws g3 h1 h2 => ?_
    · refine cs_yes ?_
      refine ⟨_, rfl, x, C, dx, _, _, rfl, g.sub _ _ (g.ss _ _ (g2.ss _ _ hx)), T.cl, T.nP, flds_places _ _, _, rfl, .of_le (by decide) (by omega) (by decide) (by omega), fun lq hq => ?_⟩
      refine q _ _ (some (.ref lq)) ((Grow.refl g.sub).alloc (.lst (rgV 0 (n : Int))) hq) ⟨lq, rfl, ?_⟩
      rw [rgV_nv]
      exact upd_same
    rw [made_const, Int.toNat_natCast] at h2
    have g4 := g2.trans g3
    refine ⟨F3, _, List.replicate c (List.range n), rfl, g3.sub, ⟨D, ws, rfl, h1, h2⟩, by rw [List.length_replicate]; exact hc, fun l hl => by rw [List.eq_of_mem_replicate hl, List.length_range]; omega, fun F4 H4 u4 g5 hu4 _ => ?_⟩
    have g6 := g4.trans g5
    have hu4 : NatTL F4 u4 (cssF n c) := hu4
    have hk4 : H4 kd = some (.dT []) := g5.keep _ _ (g3.keep _ _ kn2)
    have Fk4 : F4 kd = none := g5.out (g3.keep _ _ kn2) (g3.out kn2 Fk1)
    obtain ⟨o0, hro0⟩ : ∃ xs, H2 rd = some (dN P w rd xs) := by
      obtain ⟨_, ⟨_, _, xs, h, _⟩, _⟩ := rk2
      exact ⟨xs, h⟩
    have Fr4 : F4 rd = none := g5.out (g3.keep _ _ hro0) (g3.out hro0 Fr1)
    have rk4 : RkH P w H4 rd (L0F ([] : List (List Nat))) 0 := ((rk2.ext g3.keep).ext g5.keep).eqv (fun g r => by unfold L0F; rw [if_neg (by simp)]) (Nat.le_refl _)
    have cssm : ∀ s ∈ cssF n c, s.length = c ∧ ∀ p ∈ s, p < n := fun s hs => cssF_mem.mp hs
    have cssn := cssF_nodup n c
    have cssl : (cssF n c).length ≤ 10000 := cssF_len (by omega) hc
    have hfl4 : FlrAt C F4 (.ref x) n ds := hfl.ext g6.ss
    have har4 : NatLL F4 (.ref av) (arF n ds) := har.ext (g3.ss.trans g5.ss)
    have hav4 : F4 av = some (.lst ys) := g5.ss _ _ (g3.ss _ _ hav)
    have hp4 : Paired (NatL F4) ys (arF n ds) := paired_ext (fun _ _ h => h.ext (g3.ss.trans g5.ss)) hp
    have spend : ∀ (F' H' : Hp) (L : Rk), True := fun _ _ _ => trivial
    generalize hcss : cssF n c = css at hu4 cssm cssn cssl
    obtain ⟨ca, zs, rfl, hca, hpz⟩ := hu4
    clear g5 g3 g4 rk2 kn2 g2 hro0
    refine ⟨ca, rfl, ⟨zs, SqL.of (g6.sub _ _ hca)⟩, for_list (K := K) (a := ca) (xs := zs) (fun i σ H' => ∃ (F : Hp) (o5 o6 o7 o8 o9 o10 : Option V), σ = [some (.ref x), some (nv c), some (.ref av), some (.ref kd), some (.ref rd), o5, o6, o7, o8, o9, o10] ∧
        Grow G H F H' ∧ Same F4 F ∧ F kd = none ∧ F rd = none ∧ KnH H' F kd (ksF (arF n ds) (css.take i)) ∧ RkH P w H' rd (L0F (css.take i)) (2 * i))
      ⟨F4, _, _, _, _, _, _, rfl, g6, Same.refl _, Fk4, Fr4, ⟨[], hk4, List.nodup_nil, .nil⟩, rk4⟩ (fun i σ H' _ ⟨F, _, _, _, _, _, _, _, g, ss, _⟩ => SqL.of (g.sub _ _ (ss _ _ hca))) ?_ ?_⟩
    · rintro i y σ H5 hi ⟨F5, o5, o6, o7, o8, o9, o10, rfl, g7, ss7, Fk5, Fr5, ⟨kvs, hkd5, hnd5, hkp5⟩, rk5⟩
      obtain ⟨cs, hcs, hy⟩ := paired_get' hpz hi
      obtain ⟨tq, rfl, htq⟩ := hy.ext ss7
      obtain ⟨hcl, hcn⟩ := cssm cs (List.mem_of_getElem? hcs)
      have hav5 := ss7 _ _ hav4
      have hp5 := paired_ext (R := NatL) (fun _ _ h => h.ext ss7) hp4
      -- goings([around[place] for place in chasers])
      refine ⟨_, rfl, tq, rfl, ⟨_, SqT.of (g7.sub _ _ htq)⟩, fun D2 hD2 => ?_⟩
      refine lcv_tup (xs := cs.map nv) NatL (fun j => (cs[j]?).map fun p => (arF n ds).getD p []) (fun _ _ _ _ e h => h.ext e) g7.sub htq hD2 (by rw [List.length_map, hcl, sizeLine_eq]; omega) (fun j z F' H' hj g hFD ho Q' q => ?_) fun F6 H6 ws2 g8 k1 k2 => ?_
      · obtain ⟨p, hpj, rfl⟩ := getElem?_map_nv hj
        have hpn : p < (arF n ds).length := by
          rw [arF_len]
          exact hcn p (List.mem_of_getElem? hpj)
        obtain ⟨y', hy', hyl⟩ := paired_getE hp5 hpn
        refine cs_yes ?_
        refine ⟨_, rfl, _, rfl, av, ys, _, y', rfl, rfl, SqL.of (g.sub _ _ (g.ss _ _ hav5)), atI_nat hy', ?_⟩
        refine q F' H' (some y') (Grow.refl g.sub) ?_
        rw [hpj]
        show NatL F' y' ((arF n ds).getD p [])
        have e : (arF n ds).getD p [] = (arF n ds)[p] := by simp [hpn]
        rw [e]
        exact hyl.ext g.ss
      rw [List.length_map, made_get] at k2
      refine ⟨F6, _, cs.map fun p => (arF n ds).getD p [], rfl, g8.sub, ⟨D2, ws2, rfl, k1, k2⟩, by rw [List.length_map, hcl]; exact hc, fun l hl => ?_, fun F7 H7 u7 g9 hu7 _ => ?_⟩
      · obtain ⟨p, hp', rfl⟩ := List.mem_map.mp hl
        have hpn : p < (arF n ds).length := by
          rw [arF_len]
          exact hcn p hp'
        have e : (arF n ds).getD p [] = nearF n ds p := by
          simp [arF, hcn p hp']
        rw [e]
        unfold nearF
        have := List.length_filter_le (fun q : Nat => joinsB ds (p : Int) (q : Int)) (List.range n)
        rw [List.length_range] at this
        omega
      -- known[chasers] = ..
      have g10 := g7.trans (g8.trans g9)
      have hkd7 := g9.keep _ _ (g8.keep _ _ hkd5)
      have Fk7 : F7 kd = none := g9.out (g8.keep _ _ hkd5) (g8.out hkd5 Fk5)
      have htq7 : F7 tq = some (.tup (cs.map nv)) := g9.ss _ _ (g8.ss _ _ htq)
      obtain ⟨rxs, hrx5⟩ : ∃ xs, H5 rd = some (dN P w rd xs) := by
        obtain ⟨_, ⟨_, _, xs, h, _⟩, _⟩ := id rk5
        exact ⟨xs, h⟩
      have hrx7 := g9.keep _ _ (g8.keep _ _ hrx5)
      have Fr7 : F7 rd = none := g9.out (g8.keep _ _ hrx5) (g8.out hrx5 Fr5)
      have rk7 := (rk5.ext g8.keep).ext g9.keep
      have hkvl : kvs.length ≤ 10000 := by
        have := paired_len hkp5
        unfold ksF at this
        rw [List.length_map, List.length_take] at this
        omega
      refine ⟨_, rfl, _, rfl, kd, _, rfl, DPut.t (k := (asI cs).map Sum.inl) hkd7 (by rw [kV_asI]; exact g10.sub _ _ htq7) (by rw [sizeLine_eq]; omega), ?_⟩
      have hnew : valV kvs ((asI cs).map (Sum.inl : Int → Key)) = none := by
        cases hv : valV kvs ((asI cs).map (Sum.inl : Int → Key)) with
        | none => rfl
        | some v' =>
          exfalso
          obtain ⟨kv, hkv, ek⟩ := List.mem_map.mp (valV_in hv)
          obtain ⟨m, hm, em⟩ := List.mem_iff_getElem.mp hkv
          obtain ⟨kn, hkn, ekn, _⟩ := paired_get' hkp5 (i := m) (y := kvs[m]) (List.getElem?_eq_getElem hm)
          rw [em] at ekn
          unfold ksF at hkn
          rw [List.getElem?_map] at hkn
          obtain ⟨cs', hcs', rfl⟩ := Option.map_eq_some_iff.mp hkn
          rw [ek] at ekn
          have e3 : asI cs = asI cs' := by
            have := congrArg (List.map fun k : Key => match k with | .inl i => i | .inr _ => 0) ekn
            simpa [List.map_map, Function.comp_def] using this
          have e4 := asI_inj e3
          subst e4
          rw [List.getElem?_take] at hcs'
          by_cases c1 : m < i
          · rw [if_pos c1] at hcs'
            have := nd_ix cssn hcs' hcs
            omega
          · rw [if_neg c1] at hcs'
            cases hcs'
      rw [putK_new _ hnew]
      have kn8 : KnH (upd H7 kd (.dT (kvs ++ [((asI cs).map Sum.inl, u7)]))) F7 kd (ksF (arF n ds) (css.take (i + 1))) := by
        refine ⟨_, upd_same, ?_, ?_⟩
        · rw [List.map_append]
          exact nd_snoc hnd5 (valV_not hnew)
        · rw [take_snoc hcs]
          unfold ksF
          rw [List.map_append]
          exact paired_app (paired_ext2 (fun kv k h => ⟨h.1, h.2.ext (g8.ss.trans g9.ss)⟩) hkp5) (.cons ⟨rfl, hu7⟩ .nil)
      have g11 := g10.mut (.dT (kvs ++ [((asI cs).map Sum.inl, u7)])) Fk7 Hk0
      have rk8 : RkH P w (upd H7 kd (.dT (kvs ++ [((asI cs).map Sum.inl, u7)]))) rd (L0F (css.take i)) (2 * i) := rk7.lock hkd7 _
      have hrx8 : (upd H7 kd (.dT (kvs ++ [((asI cs).map Sum.inl, u7)]))) rd = some (dN P w rd rxs) := by rw [upd_ne nkr.symm]; exact hrx7
      generalize upd H7 kd (.dT (kvs ++ [((asI cs).map Sum.inl, u7)])) = H8 at kn8 g11 rk8 hrx8
      -- for place in chasers
      refine ⟨_, rfl, tq, rfl, ⟨_, SqT.of (g11.sub _ _ htq7)⟩, for_tup (K := K) (a := tq) (xs := cs.map nv) (fun j σ H' => ∃ (F : Hp) (o6 o7 o8 o9 o10 : Option V), σ = [some (.ref x), some (nv c), some (.ref av), some (.ref kd), some (.ref rd), some (.ref tq), o6, o7, o8, o9, o10] ∧
          Grow G H F H' ∧ Same F7 F ∧ F kd = none ∧ F rd = none ∧ KnH H' F kd (ksF (arF n ds) (css.take (i + 1))) ∧ RkH P w H' rd (fun g r => if (g ∈ css.take i ∧ r ∈ g) ∨ (g = cs ∧ r ∈ cs.take j) then some 0 else none) (2 * i + j))
        ⟨F7, _, _, _, _, _, rfl, g11, Same.refl _, Fk7, Fr7, kn8, rk8.eqv (fun g r => by simp [L0F]) (by omega)⟩ (fun j σ H' _ ⟨F, _, _, _, _, _, _, g, ss, _⟩ => SqT.of (g.sub _ _ (ss _ _ htq7))) ?_ ?_⟩
      · rintro j z σ H9 hj ⟨F9, q6, q7, q8, q9, q10, rfl, g12, ss9, Fk9, Fr9, kn9, rk9⟩
        obtain ⟨p, hpj, rfl⟩ := getElem?_map_nv hj
        have hjc : j < c := by
          rw [← hcl]
          exact (List.getElem?_eq_some_iff.mp hpj).1
        have hic : i < css.length := (List.getElem?_eq_some_iff.mp hcs).1
        refine ⟨_, rfl, _, rfl, _, rfl, (by show 2 ≤ sizeLine; decide), fun t ht => ?_⟩
        have g13 := g12.alloc (.tup [.ref tq, nv p]) ht
        refine ⟨rd, t, rfl, rfl, ?_⟩
        refine RkH.put (s := (cs, p)) (k := 0) (rk9.ext (same_new _ ht)) (by rw [sizeLine_eq]; omega) ⟨tq, upd_same, by rw [asI_nv]; exact g13.sub _ _ (same_new _ (g12.sub.free ht) _ _ (ss9 _ _ htq7))⟩ fun o hrk => ?_
        have ntr : rd ≠ t := by
          obtain ⟨_, ⟨_, _, xs, h, _⟩, _⟩ := id rk9
          exact ne_of_none h ht
        have ntk : kd ≠ t := by
          obtain ⟨_, h, _⟩ := id kn9
          exact ne_of_none h ht
        have Fr13 : (upd F9 t (.tup [.ref tq, nv p])) rd = none := by rw [upd_ne ntr]; exact Fr9
        refine ⟨_, _, _, _, _, _, rfl, g13.mut o Fr13 Hr0, ss9.trans (same_new _ (g12.sub.free ht)), by rw [upd_ne ntk]; exact Fk9, Fr13, ?_, hrk.eqv (fun g r => ?_) (by omega)⟩
        · obtain ⟨kvs9, h9, nd9, p9⟩ := kn9
          refine ⟨kvs9, by rw [upd_ne nkr, upd_ne ntk]; exact h9, nd9, paired_ext2 (fun kv k h => ⟨h.1, h.2.ext (same_new _ (g12.sub.free ht))⟩) p9⟩
        · rw [take_snoc hpj]
          by_cases e1 : (g, r) = (cs, p)
          · injection e1 with e1 e2
            subst e1 e2
            rw [if_pos rfl, if_pos (.inr ⟨rfl, by simp⟩)]
          · rw [if_neg e1]
            have : ((g ∈ css.take i ∧ r ∈ g) ∨ (g = cs ∧ r ∈ cs.take j)) ↔ ((g ∈ css.take i ∧ r ∈ g) ∨ (g = cs ∧ r ∈ cs.take j ++ [p])) := by
              constructor
              · rintro (h | ⟨h, h'⟩)
                · exact .inl h
                · exact .inr ⟨h, List.mem_append_left _ h'⟩
              · rintro (h | ⟨h, h'⟩)
                · exact .inl h
                · refine .inr ⟨h, ?_⟩
                  rcases List.mem_append.mp h' with h'' | h''
                  · exact h''
                  · rw [List.mem_singleton] at h''
                    exact absurd (by rw [h, h'']) e1
            by_cases c1 : (g ∈ css.take i ∧ r ∈ g) ∨ (g = cs ∧ r ∈ cs.take j)
            · rw [if_pos c1, if_pos (this.mp c1)]
            · rw [if_neg c1, if_neg (fun z => c1 (this.mpr z))]
      · rintro σ H9 ⟨F9, q6, q7, q8, q9, q10, rfl, g12, ss9, Fk9, Fr9, kn9, rk9⟩
        refine ⟨F9, _, _, _, _, _, _, rfl, g12, ss7.trans ((g8.ss.trans g9.ss).trans ss9), Fk9, Fr9, kn9, rk9.eqv (fun g r => ?_) (by rw [List.length_map, hcl]; omega)⟩
        rw [List.length_map, List.take_length, take_snoc hcs]
        unfold L0F
        have : ((g ∈ css.take i ∧ r ∈ g) ∨ (g = cs ∧ r ∈ cs)) ↔ (g ∈ css.take i ++ [cs] ∧ r ∈ g) := by
          rw [List.mem_append, List.mem_singleton]
          constructor
          · rintro (⟨h, h'⟩ | ⟨h, h'⟩)
            · exact ⟨.inl h, h'⟩
            · exact ⟨.inr h, h ▸ h'⟩
          · rintro ⟨h | h, h'⟩
            · exact .inl ⟨h, h'⟩
            · exact .inr ⟨h, h ▸ h'⟩
        by_cases c1 : (g ∈ css.take i ∧ r ∈ g) ∨ (g = cs ∧ r ∈ cs)
        · rw [if_pos c1, if_pos (this.mp c1)]
        · rw [if_neg c1, if_neg (fun z => c1 (this.mpr z))]
    · rintro σ H9 ⟨F9, o5, o6, o7, o8, o9, o10, rfl, g7, ss7, Fk9, Fr9, kn9, rk9⟩
      rw [paired_len hpz, List.take_length] at kn9 rk9
      have har9 := har4.ext ss7
      have hkl : (ksF (arF n ds) css).length ≤ 10000 := by unfold ksF; rw [List.length_map]; exact cssl
      have hal : (arF n ds).length ≤ 100 := by rw [arF_len]; omega
      refine ⟨_, rfl, _, rfl, _, rfl, F9, _, arF n ds, rd, L0F css, _, kd, ksF (arF n ds) css, rfl, g7.sub, har9, rk9, kn9, Fk9, hkl, hal, fun F10 H10 u10 g10 hu10 => ?_⟩
      obtain ⟨kvs9, hkd9, _⟩ := id kn9
      obtain ⟨rx9, hrx9⟩ : ∃ xs, H9 rd = some (dN P w rd xs) := by
        obtain ⟨_, ⟨_, _, xs, h, _⟩, _⟩ := id rk9
        exact ⟨xs, h⟩
      have hu0 := unr_le n css (L0F css)
      have hu2 : css.length * n ≤ 10000 * 6 := Nat.mul_le_mul cssl hn
      have lapE : ∀ t, lapN n ds c t = lapL (arF n ds) (ksF (arF n ds) css) (L0F css) t := fun t => by unfold lapN; rw [hcss]
      obtain ⟨W, hW⟩ : ∃ W : Nat → L2.St → Hp → Prop, W = fun m σ H' => ∃ (t : Nat) (F : Hp) (mv : V) (o5 o6 o9 o10 : Option V), σ = [some (.ref x), some (nv c), some (.ref av), some (.ref kd), some (.ref rd), o5, o6, some (nv (t + 1)), some mv, o9, o10] ∧ Grow G H F H' ∧ Same F9 F ∧ F kd = none ∧ F rd = none ∧
          KnH H' F kd (ksF (arF n ds) css) ∧ RkH P w H' rd (lapN n ds c t) (100000 - unr n css (lapN n ds c t)) ∧ LstOf StT F mv (moreF (arF n ds) (lapN n ds c t) (ksF (arF n ds) css)) ∧ (∀ s, s < t → moreF (arF n ds) (lapN n ds c s) (ksF (arF n ds) css) ≠ []) ∧ m = unr n css (lapN n ds c t) ∧ m ≤ 60000 := ⟨_, rfl⟩
      refine ⟨W, ⟨unr n css (lapN n ds c 0), ?_⟩, ?_⟩
      · rw [hW]
        refine ⟨0, F10, u10, _, _, _, _, rfl, g7.trans g10, g10.ss, g10.out hkd9 Fk9, g10.out hrx9 Fr9, kn9.ext g10.ss (fun o => g10.keep _ _), ?_, ?_, fun s hs => absurd hs (Nat.not_lt_zero s), rfl, ?_⟩
        · rw [lapE]
          exact (rk9.ext g10.keep).eqv (fun _ _ => rfl) (by show _ ≤ 100000 - unr n css (L0F css); omega)
        · rw [lapE]
          exact hu10
        · rw [lapE]
          show unr n css (L0F css) ≤ 60000
          omega
      rw [hW]
      rintro m σ H11 ⟨t, F11, mv, o5, o6, o9, o10, rfl, g11, ss11, Fk11, Fr11, kn11, rk11, hmv, hbef, hm, hm6⟩
      obtain ⟨ma, ms, rfl, hma, hpm⟩ := id hmv
      have hml := paired_len hpm
      refine ⟨_, rfl, ma, ms, rfl, .inl (SqL.of (g11.sub _ _ hma)), _, _, rfl, rfl, _, rfl, ?_⟩
      generalize hMM : moreF (arF n ds) (lapN n ds c t) (ksF (arF n ds) css) = MM at hmv hpm hml
      by_cases cc : (0 : Int) < (ms.length : Int)
      case neg =>
        refine iteDF cc ?_
        have hnil : MM = [] := List.length_eq_zero_iff.mp (by omega)
        rw [hnil] at hMM
        rw [← hcss] at hMM hbef
        have hend := ranks_end (fun s hs => hbef s hs) hMM
        refine ⟨_, rfl, k _ _ _ g11 Fr11 (rk11.eqv (fun g r => by rw [hend]) (by omega)) Hr0⟩
      refine iteDT cc ⟨fun σ' H' => ∃ m', m' < m ∧ W m' σ' H', fun σ' H' h => by rw [← hW]; exact h, ?_⟩
      refine ⟨_, rfl, ma, rfl, ⟨ms, SqL.of (g11.sub _ _ hma)⟩, for_list (K := K) (a := ma) (xs := ms) (fun j σ H' => ∃ (F : Hp) (o9 : Option V), σ = [some (.ref x), some (nv c), some (.ref av), some (.ref kd), some (.ref rd), o5, o6, some (nv (t + 1)), some (.ref ma), o9, o10] ∧ Grow G H F H' ∧ Same F11 F ∧ F kd = none ∧ F rd = none ∧
          KnH H' F kd (ksF (arF n ds) css) ∧ RkH P w H' rd (upL (lapN n ds c t) (MM.take j) (t + 1)) (100000 - unr n css (lapN n ds c t) + j))
        ⟨F11, _, rfl, g11, Same.refl _, Fk11, Fr11, kn11, rk11.eqv (fun g r => by rw [List.take_zero, upL_nil]) (by omega)⟩ (fun j σ H' _ ⟨F, _, _, g, ss, _⟩ => SqL.of (g.sub _ _ (ss _ _ hma))) ?_ ?_⟩
      · rintro j z σ H12 hj ⟨F12, q9, rfl, g12, ss12, Fk12, Fr12, kn12, rk12⟩
        obtain ⟨s, hs, hz⟩ := paired_get' hpm hj
        obtain ⟨tq, rfl, hz2⟩ : ∃ tq, z = .ref tq ∧ StT F11 (.ref tq) s := by
          obtain ⟨tq, q, rfl, h2, h3⟩ := hz
          exact ⟨tq, rfl, tq, q, rfl, h2, h3⟩
        have hul := unr_lap n ds c t
        rw [hcss, hMM] at hul
        have hjl : j < MM.length := (List.getElem?_eq_some_iff.mp hs).1
        refine ⟨_, rfl, _, rfl, _, rfl, rd, tq, rfl, rfl, RkH.put (s := s) (k := t + 1) rk12 (by rw [sizeLine_eq]; omega) ?_ fun o hrk => ?_⟩
        · exact (hz2.ext (ss12.trans g12.sub)).nat
        · refine ⟨F12, _, rfl, g12.mut o Fr12 Hr0, ss12, Fk12, Fr12, kn12.ext (Same.refl _) (fun o e => by rw [upd_ne nkr]; exact e), hrk.eqv (fun g r => ?_) (by omega)⟩
          rw [take_snoc hs, upL_snoc]
      · rintro σ H12 ⟨F12, q9, rfl, g12, ss12, Fk12, Fr12, kn12, rk12⟩
        rw [hml, List.take_length] at rk12
        have hlap : upL (lapN n ds c t) MM (t + 1) = lapN n ds c (t + 1) := by
          rw [← hMM, ← hcss]
          rfl
        rw [hlap] at rk12
        have hul := unr_lap n ds c t
        rw [hcss, hMM] at hul
        refine ⟨_, rfl, _, _, rfl, rfl, _, rfl, _, rfl, _, rfl, F12, _, arF n ds, rd, lapN n ds c (t + 1), _, kd, ksF (arF n ds) css, rfl, g12.sub, har9.ext (ss11.trans ss12), rk12, kn12, Fk12, hkl, hal, fun F13 H13 u13 g13 hu13 => ?_⟩
        obtain ⟨kvs12, hkd12, _⟩ := id kn12
        obtain ⟨rx12, hrx12⟩ : ∃ xs, H12 rd = some (dN P w rd xs) := by
          obtain ⟨_, ⟨_, _, xs, h, _⟩, _⟩ := id rk12
          exact ⟨xs, h⟩
        refine ⟨unr n css (lapN n ds c (t + 1)), by omega, ?_⟩
        rw [hW]
        refine ⟨t + 1, F13, u13, _, _, _, _, rfl, g12.trans g13, ss11.trans (ss12.trans g13.ss), g13.out hkd12 Fk12, g13.out hrx12 Fr12, kn12.ext g13.ss (fun o => g13.keep _ _), (rk12.ext g13.keep).eqv (fun _ _ => rfl) (by omega), hu13, fun s hs => ?_, rfl, by omega⟩
        by_cases e : s = t
        · subst e
          rw [hMM]
          intro e
          have h0 : MM.length = 0 := by rw [e]; rfl
          omega
        · exact hbef s (by omega)
end
end CF

namespace CF
open PySem L2 PyProof.Rows
section
variable {P : Program} {w : World} {K : PySem.W.Frag} {mg : Str → Option Value} {base : Heap}
theorem sc_rank : FnScope ["floor", "chasers", "runner"] ["floor", "chasers", "runner"] (defScope s_rank) := ⟨rfl, rfl, rfl, by decide +kernel, rfl, by decide +kernel, by decide +kernel⟩
theorem ok_rank {f C CN : Addr} {fd : FuncData} (F : Fun K "rank" "rank" s_rank f fd) (ml : mg "len" = none) (mt : mg "tuple" = none)
    (I : Cal P w K mg base 2 "asked_standing" ["floor", "chasers", "runner"] (spAsked C CN)) (AL : Cal P w K mg base 5 "all_ranks" ["floor", "count"] (spRanks P w C)) : FnOk P w K mg base (L2N.CX P w) 6 f fd ["floor", "chasers", "runner"] (spRank C CN) := by
  refine Fun_okN F sc_rank (fun vs H Q E h => ?_) (fun cdv A outer s H vs Q E hr tk h => ?_)
  · obtain ⟨F, v, n, ds, a, is, r, rfl, _⟩ := h
    rfl
  · obtain ⟨G, v, n, ds, a, is, r, rfl, hG, hfl, hn, ha, hl, k, kE⟩ := h
    have hu := hu_of hr
    refine ⟨_, pss_cons (ps_expr (pe_clS I hr rfl tk (pa_cons (pv 0) (pa_cons (pv 1) (pa_cons (pv 2) pa_nil)))))
      (pss_one (ps_ret (pe_nget1 hr.units (pe_cl AL hr rfl (pa_cons (pv 0) (pa_cons (pe_callB call_len_seq (by rfl) ml PySem.boot_len (pa_cons (pv 1) pa_nil)) pa_nil)))
        (pe_tup (pa_cons (pe_tupleOf rfl mt (pv 1)) (pa_cons (pv 2) pa_nil))) ⟨rfl, rfl, rfl, rfl⟩))), ?_⟩
    refine ⟨_, rfl, _, rfl, _, rfl, G, v, n, ds, a, is, r, rfl, hG, hfl, ha, hl, fun hs H' g => ?_, fun hs H' g => kE hs H' g⟩
    obtain ⟨cs, p, rfl, rfl, h1, h2, h3, h4⟩ := standB_true hs
    refine ⟨_, rfl, _, rfl, a, _, rfl, .inl (SqL.of (g.sub _ _ ha)), ?_⟩
    rw [intsV_asI] at *
    rw [List.length_map]
    refine ⟨G, v, n, ds, cs.length, rfl, g.sub, hfl, hn, h2, fun F1 H1 rd g1 hrd hrk hr0 => ?_⟩
    obtain ⟨kvs, hkv, hlen, hL⟩ := hrk
    refine ⟨rd, kvs, rfl, hkv, _, rfl, .inl ⟨a, _, rfl, SqL.of (g1.sub _ _ (g1.ss _ _ ha)), fun q hq => ⟨_, rfl, by show 2 ≤ sizeLine; decide, fun t ht => ?_⟩⟩⟩
    have g2 := ((g.trans g1).alloc (.tup (cs.map nv)) hq).alloc (.tup [.ref q, nv p]) ht
    have s2 := (same_new (.tup (cs.map nv)) hq).trans (same_new (.tup [.ref q, nv p]) ht)
    refine ⟨t, (asI cs, (p : Int)), rfl, hkv.ext s2, ⟨q, upd_same, by rw [asI_nv]; exact same_new _ ht _ _ upd_same⟩, ?_⟩
    rw [hL, getN_op]
    exact k cs p rfl rfl hs _ _ g2
end
end CF

namespace CF
open PySem L2 PyProof.Rows
section
variable {P : Program} {w : World} {K : PySem.W.Frag} {mg : Str → Option Value} {base : Heap}
theorem sc_free : FnScope ["floor", "chasers", "runner"] ["floor", "chasers", "runner"] (defScope s_asked_free) := ⟨rfl, rfl, rfl, by decide +kernel, rfl, by decide +kernel, by decide +kernel⟩
theorem ok_free {f C CS CC : Addr} {fd : FuncData} (F : Fun K "asked_free" "asked_free" s_asked_free f fd) (N : Exn K mg "Caught" CC)
    (I : Cal P w K mg base 2 "asked_standing" ["floor", "chasers", "runner"] (spAsked C CS)) : FnOk P w K mg base (L2N.CX P w) 3 f fd ["floor", "chasers", "runner"] (spFree C CS CC) := by
  refine Fun_okN F sc_free (fun vs H Q E h => ?_) (fun cdv A outer s H vs Q E hr tk h => ?_)
  · obtain ⟨F, v, n, ds, a, is, r, rfl, _⟩ := h
    rfl
  · obtain ⟨G, v, n, ds, a, is, r, rfl, hG, hfl, ha, hl, k, kS, kC⟩ := h
    refine ⟨_, pss_cons (ps_expr (pe_clS I hr rfl tk (pa_cons (pv 0) (pa_cons (pv 1) (pa_cons (pv 2) pa_nil)))))
      (pss_one (ps_if (pt_cmpR op_in_seq (pv 2) (pv 1) rfl) (pss_one (ps_rs rfl tk N rfl)) pss_nil)), ?_⟩
    refine ⟨_, rfl, _, rfl, _, rfl, G, v, n, ds, a, is, r, rfl, hG, hfl, ha, hl, fun hs H' g => ?_, fun hs H' g => kS hs H' g⟩
    refine ⟨_, rfl, _, rfl, a, _, rfl, .inl (SqL.of (g.sub _ _ ha)), rfl, flat_intsV is, ?_⟩
    rw [inV_intsV]
    by_cases c : r ∈ is
    · exact ⟨_, rfl, iteDT c (kC hs c H' g)⟩
    · exact ⟨_, rfl, iteDF c (k hs c H' g)⟩
theorem sc_flight : FnScope ["floor", "chasers", "runner", "ranks", "best", "place", "here"] ["floor", "chasers", "runner"] (defScope s_flight_step) := ⟨rfl, rfl, rfl, by decide +kernel, rfl, by decide +kernel, by decide +kernel⟩
theorem ok_flight {f C CS CC : Addr} {fd : FuncData} (F : Fun K "flight_step" "flight_step" s_flight_step f fd) (T : FlrC K mg C) (ml : mg "len" = none) (mt : mg "tuple" = none)
    (I : Cal P w K mg base 3 "asked_free" ["floor", "chasers", "runner"] (spFree C CS CC)) (AL : Cal P w K mg base 5 "all_ranks" ["floor", "count"] (spRanks P w C)) (NE : Met P w K mg base C 3 "near" ["self", "place"] (spNear C CS)) :
    FnOk P w K mg base (L2N.CX P w) 6 f fd ["floor", "chasers", "runner"] (spFlight C CS CC) := by
  refine Fun_okN F sc_flight (fun vs H Q E h => ?_) (fun cdv A outer s H vs Q E hr tk h => ?_)
  · obtain ⟨F, v, n, ds, a, is, r, rfl, _⟩ := h
    rfl
  · obtain ⟨G, v, n, ds, a, is, r, rfl, hG, hfl, hn, ha, hl, k, kS, kC⟩ := h
    have nd := sc_flight.nd
    refine ⟨_, pss_cons (ps_expr (pe_clS I hr rfl tk (pa_cons (pv 0) (pa_cons (pv 1) (pa_cons (pv 2) pa_nil)))))
      (pss_cons (ps_set (i := 3) nd rfl (.inl rfl) (pe_cl AL hr rfl (pa_cons (pv 0) (pa_cons (pe_callB call_len_seq (by rfl) ml PySem.boot_len (pa_cons (pv 1) pa_nil)) pa_nil))))
      (pss_cons (ps_set (i := 4) nd rfl (.inl rfl) pe_non)
      (pss_cons (ps_for (passes_of rfl) rfl (pi_list (pe_mt NE T.cl hr (pv 0) (pa_cons (pv 2) pa_nil))) (pg_name (i := 5) nd rfl (.inl rfl))
        (pss_cons (ps_set (i := 6) nd rfl (.inl rfl) (pe_nget1 hr.units (pv 3) (pe_tup (pa_cons (pe_tupleOf rfl mt (pv 1)) (pa_cons (pv 5) pa_nil))) ⟨rfl, rfl, rfl, rfl⟩))
        (pss_cons (ps_if (pt_cmp (pc_isN (pv 6))) (pss_one (ps_ret (pv 5))) pss_nil)
        (pss_one (ps_if (PW.pt (pw_or (pt_cmp (pc_isN (pv 4))) (pw_or1 (pt_cmpR op_gt (pv 6) (pe_ix (r := rIxT K) ix_tup (pv 4) pe_int (fun _ _ => rfl)) (nomark _)))))
          (pss_one (ps_set (i := 4) nd rfl (.inl rfl) (pe_tup (pa_cons (pv 6) (pa_cons (pv 5) pa_nil))))) pss_nil)))))
      (pss_one (ps_ret (pe_ix (r := rIxT K) ix_tup (pv 4) pe_int (fun _ _ => rfl))))))), ?_⟩
    obtain ⟨x, dx, d, rfl, hx, hds⟩ := id hfl
    refine ⟨_, rfl, _, rfl, _, rfl, G, _, n, ds, a, is, r, rfl, hG, hfl, ha, hl, fun hs hni H1 g1 => ?_, fun hs H' g => kS hs H' g, fun hs hm H' g => kC hs hm H' g⟩
    obtain ⟨cs, p, rfl, rfl, h1, h2, h3, h4⟩ := standB_true hs
    have hpc : p ∉ cs := fun z => hni (mem_asI.mpr z)
    rw [intsV_asI] at ha
    refine ⟨_, rfl, _, rfl, a, _, rfl, .inl (SqL.of (g1.sub _ _ ha)), ?_⟩
    rw [List.length_map]
    refine ⟨G, _, n, ds, cs.length, rfl, g1.sub, hfl, hn, h2, fun F2 H2 rd g2 hrd hrk hr0 => ?_⟩
    have g2' := g1.trans g2
    have hx2 := g2.ss _ _ hx
    -- for place in floor.near(runner)
    refine ⟨_, rfl, x, dx, _, rfl, g2'.sub _ _ hx2, flds_no _ _ (by decide +kernel) (by decide +kernel), _, rfl, F2, _, n, ds, (p : Int), rfl, g2'.sub, hfl.ext g2.ss, by omega, fun _ F3 H3 u3 g3 hu3 _ => ?_, fun z => absurd ⟨by omega, by omega⟩ z⟩
    rw [Int.toNat_natCast] at hu3
    obtain ⟨nl, rfl, hnl⟩ := hu3
    have g3' := g2'.trans g3
    have hrk3 := hrk.ext g3.keep
    have ha3 := g3.ss _ _ (g2.ss _ _ ha)
    have hne : nearF n ds p ≠ [] := fun e => by
      have : p ∈ nearF n ds p := nearF_mem.mpr ⟨h4, joins_refl _ _⟩
      rw [e] at this
      cases this
    have k := k cs p rfl rfl hs hpc
    generalize hLL : ranksF n ds cs.length = L at hrk3 k
    generalize nearF n ds p = nr at hnl hne k
    refine ⟨nl, rfl, ⟨_, SqL.of (g3'.sub _ _ hnl)⟩, for_list (K := K) (a := nl) (xs := nr.map nv) (fun i σ H' => ∃ (F : Hp) (o4 : V) (acc : Option (Nat × Nat)) (o5 o6 : Option V), σ = [some (.ref x), some (.ref a), some (V.int (p : Int)), some (.ref rd), some o4, o5, o6] ∧ Grow G H F H' ∧ Same F3 F ∧
        RkH P w H' rd L 100000 ∧ (match acc with | none => o4 = .non ∧ i = 0 | some (b, q) => ∃ t, o4 = .ref t ∧ F t = some (.tup [nv b, nv q])) ∧ flF (L cs) nr none = flF (L cs) (nr.drop i) acc)
      ⟨F3, .non, none, _, _, rfl, g3', Same.refl _, hrk3, ⟨rfl, rfl⟩, rfl⟩ (fun i σ H' _ ⟨F, _, _, _, _, _, g, ss, _⟩ => SqL.of (g.sub _ _ (ss _ _ hnl))) ?_ ?_⟩
    · rintro i y σ H4 hi ⟨F4, o4, acc, o5, o6, rfl, g4, s4, hrk4, hb, hfe⟩
      obtain ⟨z, hz, rfl⟩ := getElem?_map_nv hi
      have hdrop : nr.drop i = z :: nr.drop (i + 1) := by
        have hlt : i < nr.length := (List.getElem?_eq_some_iff.mp hz).1
        rw [List.drop_eq_getElem_cons hlt]
        rw [List.getElem?_eq_getElem hlt] at hz
        cases hz
        rfl
      rw [hdrop] at hfe
      obtain ⟨kvs, hkv, hkl, hL⟩ := id hrk4
      refine ⟨_, rfl, rd, kvs, rfl, hkv, _, rfl, .inl ⟨a, _, rfl, SqL.of (g4.sub _ _ (s4 _ _ ha3)), fun q hq => ⟨_, rfl, (by show 2 ≤ sizeLine; decide), fun t ht => ?_⟩⟩⟩
      have g5 := (g4.alloc (.tup (cs.map nv)) hq).alloc (.tup [.ref q, nv z]) ht
      have s5 := (same_new (.tup (cs.map nv)) (g4.sub.free hq)).trans (same_new (.tup [.ref q, nv z]) ((g4.alloc (.tup (cs.map nv)) hq).sub.free ht))
      have k5 := (same_new (.tup (cs.map nv)) hq).trans (same_new (.tup [.ref q, nv z]) ht)
      refine ⟨t, (asI cs, (z : Int)), rfl, hkv.ext k5, ⟨q, upd_same, by rw [asI_nv]; exact same_new _ ht _ _ upd_same⟩, ?_⟩
      rw [hL, getN_op]
      refine ⟨_, rfl, _, rfl, ?_⟩
      cases e : L cs z with
      | none =>
        refine iteDT rfl ⟨_, rfl, ?_⟩
        have e2 : flF (L cs) nr none = z := by
          rw [hfe]
          show (match L cs z with | none => z | some h => _) = z
          rw [e]
        rw [e2] at k
        exact k _ _ g5
      | some h =>
        refine iteDF (fun z => by cases z) ?_
        -- best is None or here > best[0]
        refine ⟨_, rfl, _, rfl, ?_⟩
        have put : ∀ acc', flF (L cs) (z :: nr.drop (i + 1)) acc = flF (L cs) (nr.drop (i + 1)) acc' → flF (L cs) nr none = flF (L cs) (nr.drop (i + 1)) acc' := fun acc' ee => by rw [hfe, ee]
        cases acc with
        | none =>
          obtain ⟨rfl, _⟩ := hb
          refine iteDT rfl (iteT ?_)
          refine ⟨_, rfl, _, rfl, (by show 2 ≤ sizeLine; decide), fun t6 ht6 => ?_⟩
          refine ⟨_, .ref t6, some (h, z), _, _, rfl, g5.alloc (.tup [nv h, nv z]) ht6, s4.trans (s5.trans (same_new _ (g5.sub.free ht6))), (hrk4.ext k5).ext (same_new _ ht6), ⟨t6, rfl, upd_same⟩, put _ ?_⟩
          show (match L cs z with | none => z | some h => _) = _
          rw [e]
        | some bq =>
          obtain ⟨b, q2⟩ := bq
          obtain ⟨tb, rfl, htb⟩ := hb
          refine iteDF (fun z => by cases z) ?_
          refine ⟨_, rfl, _, rfl, tb, _, 0, nv b, rfl, rfl, SqT.of (g5.sub _ _ (s5 _ _ htb)), rfl, _, _, rfl, rfl, _, rfl, ?_⟩
          have ee : flF (L cs) (z :: nr.drop (i + 1)) (some (b, q2)) = if h > b then flF (L cs) (nr.drop (i + 1)) (some (h, z)) else flF (L cs) (nr.drop (i + 1)) (some (b, q2)) := by
            show (match L cs z with | none => z | some h => _) = _
            rw [e]
          by_cases cb : (b : Int) < (h : Int)
          · refine iteDT cb ?_
            refine ⟨_, rfl, _, rfl, (by show 2 ≤ sizeLine; decide), fun t6 ht6 => ?_⟩
            refine ⟨_, .ref t6, some (h, z), _, _, rfl, g5.alloc (.tup [nv h, nv z]) ht6, s4.trans (s5.trans (same_new _ (g5.sub.free ht6))), (hrk4.ext k5).ext (same_new _ ht6), ⟨t6, rfl, upd_same⟩, put _ (by rw [ee, if_pos (by omega)])⟩
          · refine iteDF cb ?_
            exact ⟨_, .ref tb, some (b, q2), _, _, rfl, g5, s4.trans s5, hrk4.ext k5, ⟨tb, rfl, s5 _ _ htb⟩, put _ (by rw [ee, if_neg (by omega)])⟩
    · rintro σ H4 ⟨F4, o4, acc, o5, o6, rfl, g4, s4, hrk4, hb, hfe⟩
      rw [List.length_map, List.drop_length] at hfe
      cases acc with
      | none =>
        obtain ⟨_, h0⟩ := hb
        rw [List.length_map] at h0
        exact absurd (List.length_eq_zero_iff.mp h0) hne
      | some bq =>
        obtain ⟨b, q2⟩ := bq
        obtain ⟨tb, rfl, htb⟩ := hb
        refine ⟨_, rfl, tb, _, 1, nv q2, rfl, rfl, SqT.of (g4.sub _ _ htb), rfl, ?_⟩
        have e2 : flF (L cs) nr none = q2 := by rw [hfe]; rfl
        rw [← e2]
        exact k _ _ g4
end
end CF

namespace CF
open PySem L2 PyProof.Rows
section
variable {P : Program} {w : World} {K : PySem.W.Frag} {mg : Str → Option Value} {base : Heap}
abbrev NCh : List Str := ["floor", "chasers", "runner", "ranks", "here", "around", "goal", "place"]
theorem sc_chase : FnScope NCh ["floor", "chasers", "runner"] (defScope s_chase_step) := ⟨rfl, rfl, rfl, by decide +kernel, rfl, by decide +kernel, by decide +kernel⟩
theorem ok_chase {f C CS CC CR : Addr} {fd : FuncData} (F : Fun K "chase_step" "chase_step" s_chase_step f fd) (N : Exn K mg "Free" CR) (ml : mg "len" = none) (mt : mg "tuple" = none) (mls : mg "list" = none)
    (I : Cal P w K mg base 3 "asked_free" ["floor", "chasers", "runner"] (spFree C CS CC)) (AL : Cal P w K mg base 5 "all_ranks" ["floor", "count"] (spRanks P w C)) (AR : Cal P w K mg base 4 "around_of" ["floor"] (spAround C))
    (GO : Cal P w K mg base 1 "goings" ["lists"] spGoings) (BE : Cal P w K mg base 1 "behind" ["around", "ranks", "chasers", "runner"] (spBehind P w)) : FnOk P w K mg base (L2N.CX P w) 6 f fd ["floor", "chasers", "runner"] (spChase C CS CC CR) := by
  refine Fun_okN F sc_chase (fun vs H Q E h => ?_) (fun cdv A outer s H vs Q E hr tk h => ?_)
  · obtain ⟨F, v, n, ds, a, is, r, rfl, _⟩ := h
    rfl
  · obtain ⟨G, v, n, ds, a, is, r, rfl, hG, hfl, hn, ha, hl, k, kS, kC, kR⟩ := h
    have nd := sc_chase.nd
    refine ⟨_, pss_cons (ps_expr (pe_clS I hr rfl tk (pa_cons (pv 0) (pa_cons (pv 1) (pa_cons (pv 2) pa_nil)))))
      (pss_cons (ps_set (i := 3) nd rfl (.inl rfl) (pe_cl AL hr rfl (pa_cons (pv 0) (pa_cons (pe_callB call_len_seq (by rfl) ml PySem.boot_len (pa_cons (pv 1) pa_nil)) pa_nil))))
      (pss_cons (ps_set (i := 4) nd rfl (.inl rfl) (pe_nget1 hr.units (pv 3) (pe_tup (pa_cons (pe_tupleOf rfl mt (pv 1)) (pa_cons (pv 2) pa_nil))) ⟨rfl, rfl, rfl, rfl⟩))
      (pss_cons (ps_if (pt_cmp (pc_isN (pv 4))) (pss_one (ps_rs rfl tk N rfl)) pss_nil)
      (pss_cons (ps_set (i := 5) nd rfl (.inr rfl) (pe_cl AR hr rfl (pa_cons (pv 0) pa_nil)))
      (pss_cons (ps_for (passes_of rfl) rfl (pi_list (pe_cl GO hr rfl (pa_cons
          (pe_lc (own := [("place", 7)]) (g := gName 7) (tt := tYes) rfl nd (pi_list (pv 1)) (blkOk_by (N := NCh) (sc := defScope s_chase_step) (by decide +kernel))
            (fun _ _ _ _ _ => pg_name (i := 7) nd rfl (Or.inl rfl)) (fun _ _ _ _ _ => pts_nil) (fun _ _ _ _ _ => pe_ix (r := rIxL K) ix_list (pv 5) (pv 7) (fun _ _ => rfl))) pa_nil))) (pg_name (i := 6) nd rfl (.inl rfl))
        (pss_one (ps_if (pt_cmpR op_eq (pe_cl BE hr rfl (pa_cons (pv 5) (pa_cons (pv 3) (pa_cons (pv 6) (pa_cons (pv 2) pa_nil))))) (pe_op op_sub (pv 4) pe_int) (nomark _)) (pss_one (ps_ret (pe_callTy call_list_of (by rfl) mls PyProof.Rows.boot_list (pa_cons (pv 6) pa_nil)))) pss_nil)))
      (pss_one (ps_ret (pe_callTy call_list_of (by rfl) mls PyProof.Rows.boot_list (pa_cons (pv 1) pa_nil))))))))), ?_⟩
    refine ⟨_, rfl, _, rfl, _, rfl, G, _, n, ds, a, is, r, rfl, hG, hfl, ha, hl, fun hs hni H1 g1 => ?_, fun hs H' g => kS hs H' g, fun hs hm H' g => kC hs hm H' g⟩
    obtain ⟨cs, p, rfl, rfl, h1, h2, h3, h4⟩ := standB_true hs
    have hpc : p ∉ cs := fun z => hni (mem_asI.mpr z)
    rw [intsV_asI] at ha
    refine ⟨_, rfl, _, rfl, a, _, rfl, .inl (SqL.of (g1.sub _ _ ha)), ?_⟩
    rw [List.length_map]
    refine ⟨G, _, n, ds, cs.length, rfl, g1.sub, hfl, hn, h2, fun F2 H2 rd g2 hrd hrk hr0 => ?_⟩
    have g2' := g1.trans g2
    have ha2 := g2.ss _ _ ha
    -- here
    obtain ⟨kvs, hkv, hkl, hL⟩ := id hrk
    refine ⟨_, rfl, rd, kvs, rfl, hkv, _, rfl, .inl ⟨a, _, rfl, SqL.of (g2'.sub _ _ ha2), fun q hq => ⟨_, rfl, (by show 2 ≤ sizeLine; decide), fun t ht => ?_⟩⟩⟩
    have g3 := (g2'.alloc (.tup (cs.map nv)) hq).alloc (.tup [.ref q, nv p]) ht
    have s3 := (same_new (.tup (cs.map nv)) (g2'.sub.free hq)).trans (same_new (.tup [.ref q, nv p]) ((g2'.alloc (.tup (cs.map nv)) hq).sub.free ht))
    have k3 := (same_new (.tup (cs.map nv)) hq).trans (same_new (.tup [.ref q, nv p]) ht)
    refine ⟨t, (asI cs, (p : Int)), rfl, hkv.ext k3, ⟨q, upd_same, by rw [asI_nv]; exact same_new _ ht _ _ upd_same⟩, ?_⟩
    rw [hL, getN_op]
    have hrk3 := hrk.ext k3
    refine ⟨_, rfl, _, rfl, ?_⟩
    cases hhere : ranksF n ds cs.length cs p with
    | none => exact iteDT rfl (kR cs p rfl rfl hs hpc hhere _ _ g3)
    | some h =>
      refine iteDF (fun z => by cases z) ?_
      have k := k cs p h rfl rfl hs hpc hhere
      have ha3 := s3 _ _ ha2
      -- around
      refine ⟨_, rfl, _, _, n, ds, rfl, g3.sub, (hfl.ext g2.ss).ext s3, by omega, fun F4 H4 u4 g4 har => ?_⟩
      obtain ⟨av, ys, rfl, hav, hp⟩ := id har
      have g4' := g3.trans g4
      have ha4 := g4.ss _ _ ha3
      have hrk4 := hrk3.ext g4.keep
      -- goings
      refine ⟨_, rfl, a, rfl, ⟨_, SqL.of (g4'.sub _ _ ha4)⟩, fun D hD => ?_⟩
      refine lcv_list (xs := cs.map nv) NatL (fun (j : Nat) => (cs[j]?).map fun p => (arF n ds).getD p []) (fun _ _ _ _ e h => h.ext e) g4'.sub (SqL.of ha4) hD (by rw [List.length_map, sizeLine_eq]; omega) (fun j z F' H' hj g hFD ho Q' q => ?_) fun F5 H5 ws g5 w1 w2 => ?_
      · obtain ⟨p', hpj, rfl⟩ := getElem?_map_nv hj
        have hpn : p' < (arF n ds).length := by
          rw [arF_len]
          exact h3 p' (List.mem_of_getElem? hpj)
        obtain ⟨y', hy', hyl⟩ := paired_getE hp hpn
        refine cs_yes ⟨_, rfl, _, rfl, av, ys, _, y', rfl, rfl, SqL.of (g.sub _ _ (g.ss _ _ hav)), atI_nat hy', q F' H' (some y') (Grow.refl g.sub) ?_⟩
        rw [hpj]
        show NatL F' y' ((arF n ds).getD p' [])
        have e : (arF n ds).getD p' [] = (arF n ds)[p'] := by simp [hpn]
        rw [e]
        exact hyl.ext g.ss
      rw [List.length_map, made_get] at w2
      have hlens : ∀ l ∈ cs.map fun p => (arF n ds).getD p [], l.length ≤ 100 := fun l hl => by
        obtain ⟨p', hp', rfl⟩ := List.mem_map.mp hl
        rw [arF_get (h3 p' hp')]
        unfold nearF
        have := List.length_filter_le (fun q : Nat => joinsB ds (p' : Int) (q : Int)) (List.range n)
        rw [List.length_range] at this
        omega
      have g5' := g4'.trans g5
      refine ⟨F5, _, cs.map fun p => (arF n ds).getD p [], rfl, g5'.sub, ⟨D, ws, rfl, w1, w2⟩, by rw [List.length_map]; exact h2, hlens, fun F6 H6 u6 g6 hu6 _ => ?_⟩
      obtain ⟨gb, gs, rfl, hgb, hpg⟩ := hu6
      have hpg : Paired (NatT F6) gs (glF (arF n ds) cs) := hpg
      have g6' := g5'.trans g6
      have ss46 : Same F4 F6 := g5.ss.trans g6.ss
      have har6 := har.ext ss46
      have hrk6 := (hrk4.ext g5.keep).ext g6.keep
      have ha6 := ss46 _ _ ha4
      -- for goal in ..
      refine ⟨gb, rfl, ⟨gs, SqL.of (g6'.sub _ _ hgb)⟩, for_list (K := K) (a := gb) (xs := gs) (fun i σ H' => ∃ (F : Hp) (o6 : Option V), σ = [some v, some (.ref a), some (V.int (p : Int)), some (.ref rd), some (nv h), some (.ref av), o6, none] ∧ Grow G H F H' ∧ Same F6 F ∧
          RkH P w H' rd (ranksF n ds cs.length) 100000 ∧ ∀ (j : Nat) (g : List Nat), j < i → (glF (arF n ds) cs)[j]? = some g → chB n ds cs p h g = false)
        ⟨F6, _, rfl, g6', Same.refl _, hrk6, fun j g hj => absurd hj (Nat.not_lt_zero j)⟩ (fun i σ H' _ ⟨F, _, _, g, ss, _⟩ => SqL.of (g.sub _ _ (ss _ _ hgb))) ?_ ?_⟩
      · rintro i y σ H7 hi ⟨F7, o6, rfl, g7, s7, hrk7, hno⟩
        obtain ⟨gl, hgl, hy⟩ := paired_get' hpg hi
        refine ⟨_, rfl, _, rfl, _, rfl, _, rfl, F7, _, arF n ds, rd, _, _, y, gl, p, rfl, g7.sub, har6.ext s7, hrk7, hy.ext s7, by rw [arF_len]; exact h4, fun F8 H8 g8 => ?_⟩
        rw [arF_get h4]
        have g8' := g7.trans g8
        have s8 := s7.trans g8.ss
        have hcb : chB n ds cs p h gl = decide (opN (behF (nearF n ds p) (ranksF n ds cs.length) gl p) = V.int ((h : Int) - 1)) := rfl
        refine ⟨_, rfl, _, _, rfl, rfl, ?_⟩
        have hsc : scal (opN (behF (nearF n ds p) (ranksF n ds cs.length) gl p)) (V.int ((h : Int) - 1)) = true := by
          cases behF (nearF n ds p) (ranksF n ds cs.length) gl p <;> rfl
        refine ⟨hsc, _, rfl, ?_⟩
        by_cases c : opN (behF (nearF n ds p) (ranksF n ds cs.length) gl p) = V.int ((h : Int) - 1)
        · refine iteDT c ?_
          obtain ⟨tg, rfl, htg⟩ := hy.ext s8
          refine ⟨_, rfl, tg, _, rfl, .inr (SqT.of (g8'.sub _ _ htg)), fun b hb => ?_⟩
          have e : chF n ds cs p h = gl := by
            unfold chF
            rw [find_at hgl (by rw [hcb]; exact decide_eq_true c) hno]
            rfl
          refine k F8 _ b (g8'.hid _ hb) (g8'.sub.free hb) ?_ (g8'.keep.free hb)
          rw [e]
          exact upd_same
        · refine iteDF c ⟨F8, _, rfl, g8', s8, hrk7.ext g8.keep, fun j g hj hg => ?_⟩
          by_cases e : j = i
          · subst e
            rw [hgl] at hg
            cases hg
            rw [hcb]
            exact decide_eq_false c
          · exact hno j g (by omega) hg
      · rintro σ H7 ⟨F7, o6, rfl, g7, s7, hrk7, hno⟩
        refine ⟨_, rfl, a, _, rfl, .inl (SqL.of (g7.sub _ _ (s7 _ _ ha6))), fun b hb => ?_⟩
        have e : chF n ds cs p h = cs := by
          unfold chF
          rw [find_no fun j g hg => hno j g (by rw [paired_len hpg]; exact (List.getElem?_eq_some_iff.mp hg).1) hg]
          rfl
        refine k F7 _ b (g7.hid _ hb) (g7.sub.free hb) ?_ (g7.keep.free hb)
        rw [e]
        exact upd_same
end
end CF

namespace CF
open PySem L2 PyProof.Rows
section
variable {P : Program} {w : World} {K : PySem.W.Frag} {mg : Str → Option Value} {base : Heap}
abbrev NOt : List Str := ["e", "wanted", "sorts", "k"]
theorem sc_other : FnScope NOt ["e", "wanted"] (defScope s_law_other) := ⟨rfl, rfl, rfl, by decide +kernel, rfl, by decide +kernel, by decide +kernel⟩
theorem ok_other {f : Addr} {fd : FuncData} (F : Fun K "_law_other" "_law_other" s_law_other f fd) (mi : mg "isinstance" = none) (mr : mg "range" = none) (mv : mg "ValueError" = none) : FnE P w K mg base 1 f fd ["e", "wanted"] (spOther K mg) := by
  refine Fun_okE F sc_other (fun a D vs H Q E h => ?_) (fun cdv A outer s H vs Q p D hot hz hr h => ?_)
  · obtain ⟨j, i, rfl, _⟩ := h
    rfl
  · obtain ⟨jw, i, rfl, hj5, hi, O, k⟩ := h
    have nd := sc_other.nd
    obtain ⟨C0, m0, k0⟩ := O.c0
    obtain ⟨C1, m1, k1⟩ := O.c1
    obtain ⟨C2, m2, k2⟩ := O.c2
    obtain ⟨C3, m3, k3⟩ := O.c3
    obtain ⟨C4, m4, k4⟩ := O.c4
    have hu : (A.deeper (envOfC "_law_other" (defScope s_law_other) s.heap.objs.size f cdv)).units + 64 < cLine := by
      have := hr.un
      omega
    have hotX : L2H.HotC (L2H.cxH CX0 P w K mg base NOt "_law_other" (defScope s_law_other) f cdv A outer s H E0 p) := ⟨p, hot, List.mem_cons_self⟩
    have ha : ∃ vs, p.2.data = .fields vs := by
      obtain ⟨_, vs, h, _⟩ := hot
      exact ⟨vs, h⟩
    have ci : CallR (L2H.cxH CX0 P w K mg base NOt "_law_other" (defScope s_law_other) f cdv A outer s H E0 p) (.builtin "isinstance") (rIsE K D p.1) := call_isP O.exc List.mem_cons_self hz ha
    refine ⟨_, pss_cons (ps_set (i := 2) nd rfl (.inl rfl) (pe_lst (pa_cons (pe_callB ci (by rfl) mi boot_isinstance (pa_cons (pv 0) (pa_cons (pe_glob (v := .ref C0) rfl m0 rfl) pa_nil)))
        (pa_cons (pe_callB ci (by rfl) mi boot_isinstance (pa_cons (pv 0) (pa_cons (pe_glob (v := .ref C1) rfl m1 rfl) pa_nil)))
        (pa_cons (pe_callB ci (by rfl) mi boot_isinstance (pa_cons (pv 0) (pa_cons (pe_glob (v := .ref C2) rfl m2 rfl) pa_nil)))
        (pa_cons (pe_callB ci (by rfl) mi boot_isinstance (pa_cons (pv 0) (pa_cons (pe_glob (v := .ref C3) rfl m3 rfl) pa_nil))) pa_nil))))))
      (pss_cons (ps_expr (pe_bm PySem.F.plainAttrs_list PySem.F.slot_list_append PySem.F.type_list_append mt_append (pv 2) (pa_cons (pe_callB ci (by rfl) mi boot_isinstance (pa_cons (pv 0) (pa_cons (pe_glob (v := .ref C4) rfl m4 rfl) pa_nil))) pa_nil)))
      (pss_one (ps_ret (pe_or (pe_cmpR (op_neD hu) (pv 2)
          (pe_lcH (own := [("k", 3)]) (g := gName 3) (tt := tYes) hotX nd (L2H.pi_range1H rfl mr (pa_cons pe_int pa_nil)) (blkOk_by (N := NOt) (sc := defScope s_law_other) (by decide +kernel))
            (fun _ _ _ _ _ _ => pg_name (i := 3) nd rfl (Or.inl rfl)) (fun _ _ _ _ _ _ => pts_nil) (fun _ _ _ _ _ _ => pe_cmpR op_eq (pv 3) (pv 1) (nomark _))) (nomark _))
        (pe_one (pe_not (pe_callB ci (by rfl) mi boot_isinstance (pa_cons (pv 0) (pa_cons (pe_bltn (v := .ty "ValueError") (by rfl) mv boot_ValueError rfl) pa_nil))))))))), ?_⟩
    refine ⟨_, rfl, .ref C0, .ref C0, _, rfl, fun u h => h, k0, _, rfl, .ref C1, .ref C1, _, rfl, fun u h => h, k1, _, rfl, .ref C2, .ref C2, _, rfl, fun u h => h, k2, _, rfl, .ref C3, .ref C3, _, rfl, fun u h => h, k3, (by show 4 ≤ sizeLine; decide), fun l hl => ?_⟩
    refine ⟨_, rfl, .inl ⟨rfl, _, SqL.of upd_same⟩, _, rfl, .ref C4, .ref C4, _, rfl, fun u h => h, k4, l, _, _, rfl, rfl, upd_same, (by show 4 < sizeLine; decide), ?_⟩
    rw [upd_upd]
    have g1 : Grow H H H (upd H l (.lst ([.bl (decide (i = 0)), .bl (decide (i = 1)), .bl (decide (i = 2)), .bl (decide (i = 3))] ++ [.bl (decide (i = 4))]))) := (Grow.refl (Same.refl H)).hid _ hl
    have hl1 : (upd H l (.lst ([.bl (decide (i = 0)), .bl (decide (i = 1)), .bl (decide (i = 2)), .bl (decide (i = 3))] ++ [.bl (decide (i = 4))]))) l = some (.lst (([decide (i = 0), decide (i = 1), decide (i = 2), decide (i = 3), decide (i = 4)] : List Bool).map V.bl)) := upd_same
    generalize upd H l (.lst ([.bl (decide (i = 0)), .bl (decide (i = 1)), .bl (decide (i = 2)), .bl (decide (i = 3))] ++ [.bl (decide (i = 4))])) = H1 at g1 hl1
    refine ⟨_, rfl, 5, rfl, by decide, by decide, fun D2 hD2 => ?_⟩
    refine lcv_range (n := (5 : Int).toNat) RBl (fun (j : Nat) => some (decide (V.int (j : Int) = V.int (jw : Int)))) rbl_ext g1.sub hD2 (by decide) (fun j F' H' hj g hFD ho Q' q => ?_) fun F2 H2 ws g2 w1 w2 => ?_
    · rw [Int.zero_add]
      exact cs_yes ⟨_, rfl, _, rfl, rfl, q F' H' (some _) (Grow.refl g.sub) rfl⟩
    rw [made_some] at w2
    have ew := rbl_map w2
    have hlist : ∀ z : Nat, z < 5 → ((List.range (5 : Int).toNat).map fun (j : Nat) => decide (V.int (j : Int) = V.int (z : Int))) = [decide (z = 0), decide (z = 1), decide (z = 2), decide (z = 3), decide (z = 4)] := fun z hz => by
      have : z = 0 ∨ z = 1 ∨ z = 2 ∨ z = 3 ∨ z = 4 := by omega
      rcases this with rfl | rfl | rfl | rfl | rfl <;> rfl
    rw [hlist jw hj5] at ew
    rw [ew] at w1
    have d1 : Dp K H2 (.ref l) (.list (dBs [decide (i = 0), decide (i = 1), decide (i = 2), decide (i = 3), decide (i = 4)])) := .lst (SqL.of (g2.keep _ _ hl1)) (dBs_dpAll _)
    have d2 : Dp K H2 (.ref D2) (.list (dBs [decide (jw = 0), decide (jw = 1), decide (jw = 2), decide (jw = 3), decide (jw = 4)])) := .lst (SqL.of (g2.sub _ _ w1)) (dBs_dpAll _)
    refine ⟨_, _, d1, d2, dBs_shaped _, dBs_shaped _, _, rfl, ?_⟩
    rw [dBs_eqL]
    have hne : ([decide (i = 0), decide (i = 1), decide (i = 2), decide (i = 3), decide (i = 4)] = [decide (jw = 0), decide (jw = 1), decide (jw = 2), decide (jw = 3), decide (jw = 4)]) ↔ jw = i := by
      have h1 : i = 0 ∨ i = 1 ∨ i = 2 ∨ i = 3 ∨ i = 4 := by omega
      have h2 : jw = 0 ∨ jw = 1 ∨ jw = 2 ∨ jw = 3 ∨ jw = 4 := by omega
      rcases h1 with rfl | rfl | rfl | rfl | rfl <;> rcases h2 with rfl | rfl | rfl | rfl | rfl <;> decide
    have k := k H2 (g1.keep.trans g2.keep)
    by_cases c : jw = i
    case neg =>
      rw [decide_eq_true c] at k
      exact iteNT (fun z => c (hne.mp z)) k
    rw [decide_eq_false (fun z => z c)] at k
    refine iteNF (hne.mpr c) ?_
    refine ⟨_, rfl, .ty "ValueError", .type "ValueError", true, rfl, fun u h => h, O.ve, true, rfl, k⟩
end
end CF

namespace CF
open PySem L2 PyProof.Rows
section
variable {P : Program} {w : World} {K : PySem.W.Frag} {mg : Str → Option Value} {base : Heap}
abbrev NLi : List Str := ["found", "due", "one", "other"]
theorem sc_like : FnScope NLi ["found", "due"] (defScope s_law_numbers_like) := ⟨rfl, rfl, rfl, by decide +kernel, rfl, by decide +kernel, by decide +kernel⟩
theorem ok_like {f : Addr} {fd : FuncData} (F : Fun K "_law_numbers_like" "_law_numbers_like" s_law_numbers_like f fd) (ml : mg "len" = none) (mi : mg "isinstance" = none) (mls : mg "list" = none) (mint : mg "int" = none) (mb : mg "bool" = none) (mz : mg "zip" = none) :
    FnOk P w K mg base CX0 1 f fd ["found", "due"] spLike := by
  refine F.ok sc_like (fun vs H Q E h => ?_) (fun cdv A outer s H vs Q E hr h => ?_)
  · obtain ⟨F, a, b, ks, rfl, _⟩ := h
    rfl
  · obtain ⟨G, a, b, ks, rfl, hG, ha, hb, hl, k⟩ := h
    have nd := sc_like.nd
    refine ⟨_, pss_cons (ps_if (PW.pt (pw_or (pt_not (pt_val (pe_callB call_isi (by rfl) mi boot_isinstance (pa_cons (pv 0) (pa_cons (pe_bltn (v := .ty "list") (by rfl) mls PyProof.Rows.boot_list rfl) pa_nil)))))
          (pw_or1 (pt_cmpR op_ne (pe_callB call_len_seq (by rfl) ml PySem.boot_len (pa_cons (pv 0) pa_nil)) (pe_callB call_len_seq (by rfl) ml PySem.boot_len (pa_cons (pv 1) pa_nil)) (nomark _)))))
        (pss_one (ps_ret pe_bl)) pss_nil)
      (pss_cons (ps_for PassesOwn.never rfl (pi_zip (by rfl) mz (pa_cons (pv 0) (pa_cons (pv 1) pa_nil))) (pg_tup rfl (pgs_cons (pg_name (i := 2) nd rfl (.inl rfl)) (pgs_cons (pg_name (i := 3) nd rfl (.inl rfl)) pgs_nil)))
        (pss_one (ps_if (PW.pt (pw_or (pt_not (pt_val (pe_callB call_isi (by rfl) mi boot_isinstance (pa_cons (pv 2) (pa_cons (pe_bltn (v := .ty "int") (by rfl) mint PyProof.Rows.boot_int rfl) pa_nil)))))
          (pw_or (pt_val (pe_callB call_isi (by rfl) mi boot_isinstance (pa_cons (pv 2) (pa_cons (pe_bltn (v := .ty "bool") (by rfl) mb PyProof.Rows.boot_bool rfl) pa_nil)))) (pw_or1 (pt_cmpR op_ne (pv 2) (pv 3) (nomark _))))))
          (pss_one (ps_ret pe_bl)) pss_nil)))
      (pss_one (ps_ret pe_bl))), ?_⟩
    refine ⟨_, rfl, _, _, _, _, true, rfl, .ty "list", .base (.lst ha), kit_ty (by decide +kernel), true, rfl, iteF ?_⟩
    refine ⟨_, rfl, a, _, rfl, .inl (SqL.of ha), _, rfl, b, _, rfl, .inl (SqL.of hb), rfl, _, rfl, iteNF rfl ?_⟩
    refine ⟨_, rfl, _, rfl, a, b, _, _, rfl, SqL.of ha, SqL.of hb, RZ.for_zipL (K := K) rfl (fun i σ H' => ∃ (o2 o3 : Option V), σ = [some (.ref a), some (.ref b), o2, o3] ∧ Grow G H G H') ⟨_, _, rfl, Grow.refl hG⟩ (fun i σ H' ⟨_, _, _, g⟩ => ⟨SqL.of (g.keep _ _ ha), SqL.of (g.keep _ _ hb)⟩) ?_ ?_⟩
    · rintro i x y T σ H1 hx hy ⟨o2, o3, rfl, g1⟩ hT
      rw [hx] at hy
      cases hy
      obtain ⟨z, _, rfl⟩ := getElem?_map_nv hx
      have g2 := g1.hid (.tup [nv z, nv z]) hT
      refine ⟨T, _, rfl, SqT.of upd_same, rfl, _, _, rfl, _, _, rfl, rfl, ?_⟩
      refine ⟨_, rfl, _, _, _, _, true, rfl, .ty "int", .base (.int (z : Int)), kit_ty (by decide +kernel), true, rfl, iteF ?_⟩
      refine ⟨_, rfl, _, _, _, _, false, rfl, .ty "bool", .base (.int (z : Int)), kit_ty (by decide +kernel), false, rfl, iteF ?_⟩
      exact ⟨_, rfl, _, rfl, rfl, _, rfl, iteNF rfl ⟨_, _, rfl, g2⟩⟩
    · rintro σ H1 ⟨o2, o3, rfl, g1⟩
      exact k _ _ g1
end
end CF

namespace CF
open PySem L2 PyProof.Rows
section
variable {P : Program} {w : World} {K : PySem.W.Frag} {mg : Str → Option Value} {base : Heap}
theorem sc_lnear : FnScope ["places", "doors", "place", "k"] ["places", "doors", "place"] (defScope s_law_near) := ⟨rfl, rfl, rfl, by decide +kernel, rfl, by decide +kernel, by decide +kernel⟩
theorem ok_lnear {f : Addr} {fd : FuncData} (F : Fun K "_law_near" "_law_near" s_law_near f fd) (mr : mg "range" = none) (mn : mg "min" = none) (mx : mg "max" = none) : FnOk P w K mg base CX0 3 f fd ["places", "doors", "place"] spLNear := by
  refine F.ok sc_lnear (fun vs H Q E h => ?_) (fun cdv A outer s H vs Q E hr h => ?_)
  · obtain ⟨F, n, v, ds, p, rfl, _⟩ := h
    rfl
  · obtain ⟨G, n, v, ds, p, rfl, hG, hds, hn, k⟩ := h
    have hu : (A.deeper (envOfC "_law_near" (defScope s_law_near) s.heap.objs.size f cdv)).units + 65 < cLine := by
      have := hr.un
      omega
    refine ⟨_, pss_one (ps_ret (pe_lc (own := [("k", 3)]) (g := gName 3) rfl sc_lnear.nd (pi_range1 rfl mr (pa_cons (pv 0) pa_nil)) (blkOk_by (N := ["places", "doors", "place", "k"]) (sc := defScope s_law_near) (by decide +kernel))
        (fun _ _ _ _ _ => pg_name (i := 3) sc_lnear.nd rfl (Or.inl rfl)) (fun _ _ _ _ _ => pts_one (PW.pt (pw_or (pt_cmpR op_eq (pv 3) (pv 2) (nomark _)) (pw_or1 (pt_cmpR (r := rInD K) (op_inD hu)
          (pe_tup (pa_cons (pe_callB (call_min2 rfl) (by rfl) mn (by decide +kernel) (pa_cons (pv 3) (pa_cons (pv 2) pa_nil))) (pa_cons (pe_callB (call_max2 rfl) (by rfl) mx (by decide +kernel) (pa_cons (pv 3) (pa_cons (pv 2) pa_nil))) pa_nil))) (pv 1) rfl)))))
        (fun _ _ _ _ _ => pv 3))), ?_⟩
    refine ⟨_, rfl, (n : Int), rfl, by omega, by omega, fun D hD => ?_⟩
    refine lcv_range (n := (n : Int).toNat) RNat (fun i => if joinsB ds i p = true then some i else none) rnat_ext hG hD (by rw [sizeLine_eq]; omega) (fun i F' H' hi g hFD ho Q' q => ?_) fun F' H' ys g h1 h2 => ?_
    · rw [Int.zero_add]
      refine ⟨rfl, _, rfl, _, rfl, rfl, _, rfl, ?_⟩
      by_cases c : (i : Int) = (p : Int)
      · have e : joinsB ds i p = true := by
          unfold joinsB
          rw [decide_eq_true c]
          rfl
        exact iteDT (by rw [c]; rfl) (iteT ⟨_, rfl, q F' H' (some (nv i)) (Grow.refl g.sub) (by rw [if_pos e]; exact rfl)⟩)
      · refine iteDF (fun z => c (V.int.inj z)) ?_
        refine ⟨_, rfl, _, rfl, _, _, rfl, _, rfl, _, rfl, _, _, rfl, (by show 2 ≤ sizeLine; decide), fun t ht => ?_⟩
        have g2 := (Grow.refl g.sub).hid (.tup [.int (mnI i p), .int (mxI i p)]) ht
        refine ⟨_, rfl, dPr (mnI i p, mxI i p), ds.map dPr, PairT.dp ⟨t, rfl, upd_same⟩, PairL.dp (hds.ext (g.ss.trans g2.sub)), dPr_shaped _, dPrs_shaped _, _, rfl, ?_⟩
        rw [any_dPr]
        have e : joinsB ds i p = decide ((mnI i p, mxI i p) ∈ ds) := by
          unfold joinsB
          rw [decide_eq_false c]
          rfl
        rw [← e]
        cases hb : joinsB ds i p with
        | true => exact iteT ⟨_, rfl, q F' _ (some (nv i)) g2 (by rw [if_pos hb]; exact rfl)⟩
        | false => exact iteF (q F' _ none g2 (by rw [if_neg (by rw [hb]; decide)]; exact trivial))
    · refine k F' H' _ g ⟨D, rfl, ?_⟩
      rw [h1, rnat_map h2, made_if]
      have e : nearF n ds p = (List.range (n : Int).toNat).filter fun (i : Nat) => joinsB ds (i : Int) (p : Int) := by
        unfold nearF
        rw [Int.toNat_natCast]
        exact List.filter_congr fun i _ => by rw [joinsB_comm]
      rw [e]
end
end CF

namespace CF
open PySem L2 PyProof.Rows
section
variable {P : Program} {w : World} {K : PySem.W.Frag} {mg : Str → Option Value} {base : Heap}
theorem sc_lwhole : FnScope ["found"] ["found"] (defScope s_law_whole) := ⟨rfl, rfl, rfl, by decide +kernel, rfl, by decide +kernel, by decide +kernel⟩
theorem ok_lwhole {f : Addr} {fd : FuncData} (F : Fun K "_law_whole" "_law_whole" s_law_whole f fd) (mi : mg "isinstance" = none) (mint : mg "int" = none) (mb : mg "bool" = none) : FnOk P w K mg base CX0 1 f fd ["found"] spWhole := by
  refine F.ok sc_lwhole (fun vs H Q E h => ?_) (fun cdv A outer s H vs Q E hr h => ?_)
  · obtain ⟨i, rfl, _⟩ := h
    rfl
  · obtain ⟨i, rfl, q⟩ := h
    refine ⟨_, pss_one (ps_ret (pe_and (pe_callB call_isi (by rfl) mi boot_isinstance (pa_cons (pv 0) (pa_cons (pe_bltn (v := .ty "int") (by rfl) mint PyProof.Rows.boot_int rfl) pa_nil)))
      (pe_one (pe_not (pe_callB call_isi (by rfl) mi boot_isinstance (pa_cons (pv 0) (pa_cons (pe_bltn (v := .ty "bool") (by rfl) mb PyProof.Rows.boot_bool rfl) pa_nil))))))), ?_⟩
    refine ⟨_, rfl, _, _, _, _, true, rfl, .ty "int", .base (.int i), kit_ty (by decide +kernel), true, rfl, iteT ?_⟩
    refine ⟨_, rfl, _, _, _, _, false, rfl, .ty "bool", .base (.int i), kit_ty (by decide +kernel), false, rfl, q⟩
end
end CF

namespace CF
open PySem L2 PyProof.Rows
section
variable {P : Program} {w : World} {K : PySem.W.Frag} {mg : Str → Option Value} {base : Heap}
/-- the plan's step as told: (0, a list that may change), (2, None), (3, None) -/
def spTold (C : Addr) : Sp := fun vs H Q _ => ∃ (F : Hp) (v : V) (n : Nat) (ds : List (Int × Int)) (a : Addr) (cs : List Nat) (r : Nat), vs = [v, .ref a, nv r] ∧ Same F H ∧ FlrAt C F v n ds ∧ n ≤ 6 ∧ F a = some (.lst (cs.map nv)) ∧ standB n (asI cs) (r : Int) = true ∧
  (r ∈ cs → ∀ F' H' t, Grow F H F' H' → F' t = some (.tup [nv 2, .non]) → Q (.ref t) H') ∧ (r ∉ cs → ranksF n ds cs.length cs r = none → ∀ F' H' t, Grow F H F' H' → F' t = some (.tup [nv 3, .non]) → Q (.ref t) H') ∧
  (∀ h, r ∉ cs → ranksF n ds cs.length cs r = some h → ∀ F' H' t b, Grow F H F' H' → F' t = some (.tup [nv 0, .ref b]) → F' b = none → H' b = some (.lst ((chF n ds cs r h).map nv)) → H b = none → Q (.ref t) H')
abbrev tTold (K : PySem.W.Frag) (mg : Str → Option Value) : Addr → Value → Option Addr → TS := fun a cls d D0 σ H => ∃ D, cls = .ref D ∧ d = none ∧
  tSeq (tFor (iListE K (tLst (tCons (tC (.int 2)) (tCons (tC (.int 3)) tNil)))) (gName 4) (tIfS (tNot (tB (tCall (spOther K mg a D) [] E0 (tCons (tVar 3) (tCons (tVar 4) tNil))))) (tRet (tTup (tCons (tVar 4) (tCons (tC .non) tNil)))) tNext)) (tRet (tTup (tCons (tC (V.int 9)) (tCons (tC .non) tNil)))) D0 σ H
abbrev NTo : List Str := ["floor", "chasers", "runner", "e", "wanted"]
theorem sc_told : FnScope NTo ["floor", "chasers", "runner"] (defScope s_law_told) := ⟨rfl, rfl, rfl, by decide +kernel, rfl, by decide +kernel, by decide +kernel⟩
theorem ok_told {f C CS CC CR : Addr} {fd : FuncData} (F : Fun K "_law_told" "_law_told" s_law_told f fd) (CH : Cal P w K mg base 6 "chase_step" ["floor", "chasers", "runner"] (spChase C CS CC CR))
    (O : CalE P w K mg base 1 "_law_other" ["e", "wanted"] (spOther K mg)) (R2 : Rfs K mg "Caught" CC 2) (R3 : Rfs K mg "Free" CR 3) : FnOk P w K mg base CX0 7 f fd ["floor", "chasers", "runner"] (spTold C) := by
  refine F.ok sc_told (fun vs H Q E h => ?_) (fun cdv A outer s H vs Q E hr h => ?_)
  · obtain ⟨F, v, n, ds, a, cs, r, rfl, _⟩ := h
    rfl
  · obtain ⟨G, v, n, ds, a, cs, r, rfl, hG, hfl, hn, ha, hst, k2, k3, k0⟩ := h
    have nd := sc_told.nd
    obtain ⟨CE, hce, hex2⟩ := R2.ex
    obtain ⟨CE3, hce3, hex3⟩ := R3.ex
    have e3 := hce.symm.trans hce3
    cases e3
    refine ⟨_, pss_one (L2N.ps_try_as (i := 3) (tb := fun W => tRet (tTup (tCons (tC (.int 0)) (tCons (tCallS (spChase C CS CC CR) (WE W) (tCons (tVar 0) (tCons (tVar 1) (tCons (tVar 2) tNil)))) tNil))))
        (ts := tTold K mg) (Wout := fun _ _ _ _ => False) rfl rfl nd rfl rfl ⟨rfl, by decide, .inl hce⟩ takesN0
        (fun W pn xe tk _ => pss_one (ps_ret (pe_tup (pa_cons pe_int (pa_cons (pe_clS CH hr rfl tk (pa_cons (pv 0) (pa_cons (pv 1) (pa_cons (pv 2) pa_nil)))) pa_nil)))))
        (fun a oe cls d pn hz hf => pss_only fun D e1 e2 => pss_cons (L2H.ps_forH PassesOwn.never ⟨(a, oe), hot_suite hz hf, List.mem_cons_self⟩ (pi_listE (pe_lst (pa_cons pe_int (pa_cons pe_int pa_nil)))) (pg_name (i := 4) nd rfl (.inl rfl))
            (pss_one (ps_if (pt_not (pt_val (pe_clE (p := (a, oe)) (D := D) (j := 6) O ⟨hr.dp, hr.un⟩ (hot_suite hz hf) List.mem_cons_self (by subst e1 e2; exact hz.zc) rfl (pa_cons (pv 3) (pa_cons (pv 4) pa_nil))))) (pss_one (ps_ret (pe_tup (pa_cons (pv 4) (pa_cons pe_non pa_nil))))) pss_nil)))
          (pss_one (ps_ret (pe_tup (pa_cons pe_int (pa_cons pe_non pa_nil))))))), ?_⟩
    have fin : ∀ (D : Addr) (i : Nat) (H1 : Hp), (i = 2 ∨ i = 3) → Oth K mg D i → PySem.W.exmOne K (.ref D) (.ref CE) = some true → Grow G H G H1 → (∀ F' H' t, Grow G H F' H' → F' t = some (.tup [nv i, .non]) → Q (.ref t) H') →
        wAs K (.ref CE) 3 (tTold K mg) (fun _ _ _ _ => False) { nx := fun _ H' => Q .non H', rt := Q } (.ref D) none (start NTo [v, .ref a, nv r]) H1 := fun D i H1 hi hoth hex g1 kk =>
      ⟨true, hex, fun _ b hb => ⟨D, rfl, rfl, (by show 2 ≤ sizeLine; decide), fun l hl' => by
        have g2 := g1.hid (.lst [V.int 2, V.int 3]) hl'
        have hll : (upd H1 l (.lst [V.int 2, V.int 3])) l = some (.lst [V.int 2, V.int 3]) := upd_same
        refine ⟨l, rfl, ⟨_, SqL.of hll⟩, for_listE (K := K) (a := l) (xs := [V.int 2, V.int 3]) (i - 2) (by show i - 2 < 2; omega) (fun j σ H' => ∃ o5 : Option V, σ = [some v, some (.ref a), some (nv r), some (.ref b), o5] ∧ Grow G H G H' ∧ H' l = some (.lst [V.int 2, V.int 3]))
          ⟨none, rfl, g2, hll⟩ (fun j σ H' ⟨_, _, _, h⟩ => SqL.of h) ?_ ?_⟩
        · rintro j x σ H3 hj hx ⟨o5, rfl, g3, h3⟩
          have hxj : x = nv (j + 2) := by
            have : j = 0 ∨ j = 1 := by omega
            rcases this with rfl | rfl <;> (cases hx; rfl)
          subst hxj
          refine ⟨_, rfl, _, rfl, j + 2, i, rfl, by omega, by omega, hoth, fun H4 s4 => ⟨_, rfl, ?_⟩⟩
          have g4 : Grow G H G H4 := ⟨Same.refl _, g3.sub.trans s4, g3.keep.trans s4, fun _ _ e => .inl e⟩
          exact iteNF (by omega) ⟨_, rfl, g4, s4 _ _ h3⟩
        · rintro x σ H3 hx ⟨o5, rfl, g3, h3⟩
          have hxj : x = nv i := by
            rcases hi with rfl | rfl <;> (cases hx; rfl)
          subst hxj
          refine ⟨_, rfl, _, rfl, i, i, rfl, by omega, by omega, hoth, fun H4 s4 => ⟨_, rfl, ?_⟩⟩
          have g4 : Grow G H G H4 := ⟨Same.refl _, g3.sub.trans s4, g3.keep.trans s4, fun _ _ e => .inl e⟩
          exact iteNT (fun z => z rfl) ⟨_, rfl, (by show 2 ≤ sizeLine; decide), fun t ht => kk _ _ t (g4.alloc (.tup [nv i, .non]) ht) upd_same⟩⟩, fun z => nomatch z⟩
    refine ⟨_, rfl, _, rfl, _, rfl, G, v, n, ds, a, asI cs, (r : Int), rfl, hG, hfl, hn, by rw [intsV_asI]; exact ha, ?_, fun cs' r' h e1 e2 _ hni hrk F1 H1 b g1 Fb hb Hb => ?_, (fun z => by rw [hst] at z; cases z), fun _ hin H1 g1 => fin CC 2 H1 (.inl rfl) R2.oth hex2 g1 (k2 (mem_asI.mp hin)), fun cs' r' e1 e2 _ hni hrk F1 H1 g1 => ?_⟩
    · have := (standB_true hst)
      obtain ⟨cs', k, e1, _, _, h2, _⟩ := this
      rw [e1, asI_len]
      omega
    · have e1 := asI_inj e1
      have e2 : r = r' := by omega
      subst e1 e2
      refine ⟨(by show 2 ≤ sizeLine; decide), fun t ht => ?_⟩
      have nbt : b ≠ t := ne_of_none hb ht
      refine k0 h hni hrk _ _ t b (g1.alloc (.tup [nv 0, .ref b]) ht) upd_same (by rw [upd_ne nbt]; exact Fb) (by rw [upd_ne nbt]; exact hb) Hb
    · have e1 := asI_inj e1
      have e2 : r = r' := by omega
      subst e1 e2
      exact fin CR 3 H1 (.inr rfl) R3.oth hex3 ⟨Same.refl _, g1.ss.trans g1.sub, g1.keep, fun _ _ e => .inl e⟩ (k3 hni hrk)
def spGoes : Sp := fun vs H Q _ => ∃ (F : Hp) (n : Nat) (v : V) (ds : List (Int × Int)) (ca gb : Addr) (cs g : List Nat), vs = [nv n, v, .ref ca, .ref gb] ∧ Same F H ∧ PairL F v ds ∧ n ≤ 6 ∧ H ca = some (.lst (cs.map nv)) ∧ H gb = some (.lst (g.map nv)) ∧ cs.length ≤ 100 ∧ g.length = cs.length ∧ (∀ (i p q : Nat), cs[i]? = some p → g[i]? = some q → q ∈ nearF n ds p) ∧
  ∀ F' H', Grow F H F' H' → Q (.bl true) H'
theorem sc_goes : FnScope ["places", "doors", "chasers", "goal", "k"] ["places", "doors", "chasers", "goal"] (defScope s_law_goes) := ⟨rfl, rfl, rfl, by decide +kernel, rfl, by decide +kernel, by decide +kernel⟩
theorem ok_goes {f : Addr} {fd : FuncData} (F : Fun K "_law_goes" "_law_goes" s_law_goes f fd) (ml : mg "len" = none) (mr : mg "range" = none) (LI : Cal P w K mg base 1 "_law_numbers_like" ["found", "due"] spLike) (LN : Cal P w K mg base 3 "_law_near" ["places", "doors", "place"] spLNear) :
    FnOk P w K mg base CX0 4 f fd ["places", "doors", "chasers", "goal"] spGoes := by
  refine F.ok sc_goes (fun vs H Q E h => ?_) (fun cdv A outer s H vs Q E hr h => ?_)
  · obtain ⟨F, n, v, ds, ca, gb, cs, g, rfl, _⟩ := h
    rfl
  · obtain ⟨G, n, v, ds, ca, gb, cs, g, rfl, hG, hpl, hn, hca, hgb, hcl, hgl, hnear, k⟩ := h
    have nd := sc_goes.nd
    refine ⟨_, pss_cons (ps_if (PW.pt (pw_or (pt_not (pt_val (pe_cl LI hr rfl (pa_cons (pv 3) (pa_cons (pv 3) pa_nil))))) (pw_or1 (pt_cmpR op_ne (pe_callB call_len_seq (by rfl) ml PySem.boot_len (pa_cons (pv 3) pa_nil)) (pe_callB call_len_seq (by rfl) ml PySem.boot_len (pa_cons (pv 2) pa_nil)) (nomark _))))) (pss_one (ps_ret pe_bl)) pss_nil)
      (pss_cons (ps_for PassesOwn.never rfl (pi_range1 rfl mr (pa_cons (pe_callB call_len_seq (by rfl) ml PySem.boot_len (pa_cons (pv 2) pa_nil)) pa_nil)) (pg_name (i := 4) nd rfl (.inl rfl))
        (pss_one (ps_if (pt_cmpR op_notIn_seq (pe_ix (r := rIxL K) ix_list (pv 3) (pv 4) (fun _ _ => rfl)) (pe_cl LN hr rfl (pa_cons (pv 0) (pa_cons (pv 1) (pa_cons (pe_ix (r := rIxL K) ix_list (pv 2) (pv 4) (fun _ _ => rfl)) pa_nil)))) rfl) (pss_one (ps_ret pe_bl)) pss_nil)))
      (pss_one (ps_ret pe_bl))), ?_⟩
    refine ⟨_, rfl, _, rfl, G, gb, gb, g, rfl, hG, hgb, hgb, by omega, fun F1 H1 g1 => ⟨true, rfl, iteF ?_⟩⟩
    have hca1 := g1.keep _ _ hca
    have hgb1 := g1.keep _ _ hgb
    refine ⟨_, rfl, gb, _, rfl, .inl (SqL.of hgb1), _, rfl, ca, _, rfl, .inl (SqL.of hca1), rfl, _, rfl, ?_⟩
    refine iteNF (by rw [List.length_map, List.length_map, hgl]) ?_
    refine ⟨_, rfl, ca, _, rfl, .inl (SqL.of hca1), _, rfl, by rw [List.length_map]; omega, by rw [List.length_map]; omega, for_range (lo := 0) (fun i σ H' => ∃ (F : Hp) (o4 : Option V), σ = [some (nv n), some v, some (.ref ca), some (.ref gb), o4] ∧ Grow G H F H') ⟨F1, _, rfl, g1⟩ ?_ ?_⟩
    · rintro i σ H2 hi ⟨F2, o4, rfl, g2⟩
      rw [List.length_map, Int.toNat_natCast] at hi
      rw [Int.zero_add]
      have hc1 : cs[i]? = some cs[i] := List.getElem?_eq_getElem hi
      have hi' : i < g.length := by omega
      have hg1 : g[i]? = some g[i] := List.getElem?_eq_getElem hi'
      have hq := hnear i _ _ hc1 hg1
      generalize cs[i] = p at hc1 hq
      generalize g[i] = q at hg1 hq
      refine ⟨_, rfl, _, rfl, gb, _, _, nv q, rfl, rfl, SqL.of (g2.keep _ _ hgb), atI_nat (by rw [List.getElem?_map, hg1]; rfl), ?_⟩
      refine ⟨_, rfl, _, rfl, _, rfl, _, rfl, ca, _, _, nv p, rfl, rfl, SqL.of (g2.keep _ _ hca), atI_nat (by rw [List.getElem?_map, hc1]; rfl), F2, n, v, ds, p, rfl, g2.sub, hpl.ext g2.ss, by omega, fun F3 H3 u3 g3 hu3 => ?_⟩
      obtain ⟨nl, rfl, hnl⟩ := hu3
      rw [nvs_intsV] at hnl
      refine ⟨nl, _, rfl, .inl (SqL.of (g3.sub _ _ hnl)), rfl, flat_intsV _, ?_⟩
      rw [show nv q = V.int (q : Int) from rfl, notInV_intsV]
      exact ⟨_, rfl, iteNF (mem_asI.mpr hq) ⟨F3, _, rfl, g2.trans g3⟩⟩
    · rintro σ H2 ⟨F2, o4, rfl, g2⟩
      exact k F2 H2 g2
theorem rk_small {n : Nat} {ds : List (Int × Int)} {c : Nat} {cs : List Nat} {r k : Nat} (hc : c = 1 ∨ c = 2) (hn : n ≤ 6) (h : ranksF n ds c cs r = some k) : k ≤ 216 := by
  have h1 := (lap_first (show lapN n ds c (unr n (cssF n c) (L0F (cssF n c))) cs r = some k from h)).1
  have h2 := unr_le n (cssF n c) (L0F (cssF n c))
  have h3 : (cssF n c).length ≤ 36 := by
    rcases hc with rfl | rfl
    · rw [cssF_one, List.length_map, List.length_range]
      omega
    · rw [cssF_two hn, List.length_map, List.length_range]
      exact Nat.mul_le_mul hn hn
  have h4 := Nat.mul_le_mul h3 hn
  omega
abbrev NL : List Str := ["script", "count", "most", "places", "doors", "floor", "chasers", "runner", "here", "flees", "turn", "handed", "found", "near", "goal", "rest"]
theorem sc_law : FnScope NL ["script"] (defScope s_law) := ⟨rfl, rfl, rfl, by decide +kernel, rfl, by decide +kernel, by decide +kernel⟩
theorem ok_law {f C CN CS CC : Addr} {fd : FuncData} (F : Fun K "law" "law" s_law f fd) (T : FlrC K mg C) (mint : mg "int" = none) (mls : mg "list" = none) (mr : mg "range" = none) (ml : mg "len" = none)
    (CE : Cal P w K mg base 1 "_law_cell_at" ["script", "k"] (spCell K)) (FL : Cal P w K mg base 2 "_law_floor_by" ["script", "most"] (spLFloor K)) (M : MkF P w K mg base C CN) (ST : Cal P w K mg base 2 "_law_standing_by" ["script", "at", "places", "count"] (spLStand K))
    (RA : Cal P w K mg base 6 "rank" ["floor", "chasers", "runner"] (spRank C CS)) (TO : Cal P w K mg base 7 "_law_told" ["floor", "chasers", "runner"] (spTold C)) (GO : Cal P w K mg base 4 "_law_goes" ["places", "doors", "chasers", "goal"] spGoes)
    (LN : Cal P w K mg base 3 "_law_near" ["places", "doors", "place"] spLNear) (FS : Cal P w K mg base 6 "flight_step" ["floor", "chasers", "runner"] (spFlight C CS CC)) (WH : Cal P w K mg base 1 "_law_whole" ["found"] spWhole) : FnOk P w K mg base CX0 8 f fd ["script"] (spLaw K) := by
  refine F.ok sc_law (fun vs H Q E h => ?_) (fun cdv A outer s H vs Q E hr h => ?_)
  · obtain ⟨a, ns, rfl, _⟩ := h
    rfl
  · obtain ⟨a, sc, rfl, hS, hlen, k⟩ := h
    have nd := sc_law.nd
    have hu := hr.units
    refine ⟨_, pss_cons (ps_set (i := 1) nd rfl (.inl rfl) (pe_op op_add pe_int (pe_op op_mod (pe_cl CE hr rfl (pa_cons (pv 0) (pa_cons pe_int pa_nil))) pe_int)))
      (pss_cons (ps_set (i := 2) nd rfl (.inl rfl) (pe_ix (r := rIxL K) ix_list (pe_lst (pa_cons pe_int (pa_cons (pe_op op_add pe_int (pe_op op_mul pe_int (pe_callTy call_int1 (by rfl) mint PyProof.Rows.boot_int (pa_cons (pe_cmpR op_eq (pe_op op_mod (pe_cl CE hr rfl (pa_cons (pv 0) (pa_cons pe_int pa_nil))) pe_int) pe_int (nomark _)) pa_nil)))) pa_nil))) (pe_op op_sub (pv 1) pe_int) (fun _ _ => rfl)))
      (pss_cons (ps_asg (pe_cl FL hr rfl (pa_cons (pv 0) (pa_cons (pv 2) pa_nil))) (pg_tup rfl (pgs_cons (pg_name (i := 3) nd rfl (.inl rfl)) (pgs_cons (pg_name (i := 4) nd rfl (.inl rfl)) pgs_nil))))
      (pss_cons (ps_set (i := 5) nd rfl (.inl rfl) (pe_mkF M T.g hr rfl (pa_cons (pv 3) (pa_cons (pe_callTy call_list_of (by rfl) mls PyProof.Rows.boot_list (pa_cons (pv 4) pa_nil)) pa_nil))))
      (pss_cons (ps_asg (pe_cl ST hr rfl (pa_cons (pv 0) (pa_cons pe_int (pa_cons (pv 3) (pa_cons (pv 1) pa_nil))))) (pg_tup rfl (pgs_cons (pg_name (i := 6) nd rfl (.inl rfl)) (pgs_cons (pg_name (i := 7) nd rfl (.inl rfl)) pgs_nil))))
      (pss_cons (ps_set (i := 8) nd rfl (.inl rfl) (pe_cl RA hr rfl (pa_cons (pv 5) (pa_cons (pe_callTy call_list_of (by rfl) mls PyProof.Rows.boot_list (pa_cons (pv 6) pa_nil)) (pa_cons (pv 7) pa_nil)))))
      (pss_cons (ps_if (pt_cmp (pc_isN (pv 8))) (pss_one (ps_ret (pe_cmpR op_eq (pe_ix (r := rIxT K) ix_tup (pe_cl TO hr rfl (pa_cons (pv 5) (pa_cons (pe_callTy call_list_of (by rfl) mls PyProof.Rows.boot_list (pa_cons (pv 6) pa_nil)) (pa_cons (pv 7) pa_nil)))) pe_int (fun _ _ => rfl)) pe_int (nomark _)))) pss_nil)
      (pss_cons (ps_if (pt_cmpR op_eq (pv 8) pe_int (nomark _)) (pss_one (ps_ret (pe_and (pe_cmpR op_in_seq (pv 7) (pv 6) rfl) (pe_one (pe_cmpR op_eq (pe_ix (r := rIxT K) ix_tup (pe_cl TO hr rfl (pa_cons (pv 5) (pa_cons (pe_callTy call_list_of (by rfl) mls PyProof.Rows.boot_list (pa_cons (pv 6) pa_nil)) (pa_cons (pv 7) pa_nil)))) pe_int (fun _ _ => rfl)) pe_int (nomark _)))))) pss_nil)
      (pss_cons (ps_set (i := 9) nd rfl (.inl rfl) (pe_cmpR op_eq (pe_op op_mod (pe_cl CE hr rfl (pa_cons (pv 0) (pa_cons pe_int pa_nil))) pe_int) pe_int (nomark _)))
      (pss_cons (ps_for PassesOwn.never rfl (pi_range1 rfl mr (pa_cons (pv 8) pa_nil)) (pg_name (i := 10) nd rfl (.inl rfl))
      (pss_cons (ps_set (i := 11) nd rfl (.inl rfl) (pe_callTy call_list_of (by rfl) mls PyProof.Rows.boot_list (pa_cons (pv 6) pa_nil)))
      (pss_cons (ps_set (i := 12) nd rfl (.inl rfl) (pe_cl TO hr rfl (pa_cons (pv 5) (pa_cons (pv 11) (pa_cons (pv 7) pa_nil)))))
      (pss_cons (ps_if (PW.pt (pw_or (pt_cmpR op_ne (pe_ix (r := rIxT K) ix_tup (pv 12) pe_int (fun _ _ => rfl)) pe_int (nomark _)) (pw_or (pt_cmpR (op_neD hu) (pv 11) (pv 6) (nomark _)) (pw_or1 (pt_not (pt_val (pe_cl GO hr rfl (pa_cons (pv 3) (pa_cons (pv 4) (pa_cons (pv 6) (pa_cons (pe_ix (r := rIxT K) ix_tup (pv 12) pe_int (fun _ _ => rfl)) pa_nil))))))))))) (pss_one (ps_ret pe_bl)) pss_nil)
      (pss_cons (ps_set (i := 6) nd rfl (.inl rfl) (pe_callTy call_list_of (by rfl) mls PyProof.Rows.boot_list (pa_cons (pe_ix (r := rIxT K) ix_tup (pv 12) pe_int (fun _ _ => rfl)) pa_nil)))
      (pss_cons (ps_expr (pe_bm PySem.F.plainAttrs_list PySem.F.slot_list_append PySem.F.type_list_append mt_append (pe_ix (r := rIxT K) ix_tup (pv 12) pe_int (fun _ _ => rfl)) (pa_cons pe_int pa_nil)))
      (pss_cons (ps_cut (ps_if (pt_cmpR op_notIn_seq (pv 7) (pv 6) rfl) (pss_cons (ps_set (i := 13) nd rfl (.inl rfl) (pe_cl LN hr rfl (pa_cons (pv 3) (pa_cons (pv 4) (pa_cons (pv 7) pa_nil)))))
      (pss_cons (ps_set (i := 14) nd rfl (.inl rfl) (pe_ix (r := rIxL K) ix_list (pv 13) (pe_op op_mod (pe_cl CE hr rfl (pa_cons (pv 0) (pa_cons (pe_op op_add pe_int (pv 10)) pa_nil))) (pe_callB call_len_seq (by rfl) ml PySem.boot_len (pa_cons (pv 13) pa_nil))) (fun _ _ => rfl)))
      (pss_cons (ps_cut (ps_if (pt_val (pv 9)) (pss_one (ps_set (i := 14) nd rfl (.inl rfl) (pe_cl FS hr rfl (pa_cons (pv 5) (pa_cons (pe_callTy call_list_of (by rfl) mls PyProof.Rows.boot_list (pa_cons (pv 6) pa_nil)) (pa_cons (pv 7) pa_nil)))))) pss_nil))
      (pss_cons (ps_if (pt_cmpR op_notIn_seq (pv 14) (pv 13) rfl) (pss_one (ps_ret pe_bl)) pss_nil)
      (pss_one (ps_set (i := 7) nd rfl (.inl rfl) (pv 14))))))) pss_nil))
      (pss_cons (ps_set (i := 15) nd rfl (.inl rfl) (pe_cl RA hr rfl (pa_cons (pv 5) (pa_cons (pe_callTy call_list_of (by rfl) mls PyProof.Rows.boot_list (pa_cons (pv 6) pa_nil)) (pa_cons (pv 7) pa_nil)))))
      (pss_cons (ps_cut (ps_if (PW.pt (pw_or (pt_not (pt_val (pe_cl WH hr rfl (pa_cons (pv 15) pa_nil)))) (pw_or (pt_cmpR op_gt (pv 15) (pe_op op_sub (pe_op op_sub (pv 8) pe_int) (pv 10)) (nomark _)) (pw_or1 (PW.pt (pw_and (pt_val (pv 9)) (pw_and1 (pt_cmpR op_lt (pv 15) (pe_op op_sub (pe_op op_sub (pv 8) pe_int) (pv 10)) (nomark _))))))))) (pss_one (ps_ret pe_bl)) pss_nil))
      (pss_one (ps_if (pt_cmpR op_in_seq (pv 7) (pv 6) rfl) (pss_one (ps_ret (pe_cmpR op_eq (pe_ix (r := rIxT K) ix_tup (pe_cl TO hr rfl (pa_cons (pv 5) (pa_cons (pe_callTy call_list_of (by rfl) mls PyProof.Rows.boot_list (pa_cons (pv 6) pa_nil)) (pa_cons (pv 7) pa_nil)))) pe_int (fun _ _ => rfl)) pe_int (nomark _)))) pss_nil)))))))))))
      (pss_one (ps_ret (pe_cmpR op_in_seq (pv 7) (pv 6) rfl)))))))))))), ?_⟩
    -- READ
    have hsc : ScrAt K H a sc := ⟨hS, by omega⟩
    -- count
    refine ⟨_, rfl, a, sc, 24, rfl, hsc, by decide, _, _, rfl, rfl, (by show (0 : Int) < 2; decide), _, _, rfl, rfl, ?_⟩
    obtain ⟨c0, hc0, hc0'⟩ := emod_nat (cellF sc 24) (n := 2) (by omega)
    have ec : V.int (1 + cellF sc 24 % 2) = nv (c0 + 1) := by
      have hc0 : cellF sc 24 % 2 = (c0 : Int) := hc0
      rw [hc0]
      show V.int (1 + (c0 : Int)) = V.int ((c0 + 1 : Nat) : Int)
      congr 1
      omega
    refine (show gName 1 (V.int (1 + cellF sc 24 % 2)) _ _ _ from ?_)
    rw [ec]
    clear ec hc0
    -- most
    obtain ⟨most, hm3, hm6, hmi⟩ : ∃ most : Nat, 3 ≤ most ∧ most ≤ 6 ∧ ([V.int 6, V.int (4 + 2 * if decide (V.int (cellF sc 29 % 8) = V.int 1) = true then 1 else 0)] : List V)[c0]? = some (nv most) := by
      have : c0 = 0 ∨ c0 = 1 := by omega
      rcases this with rfl | rfl
      · exact ⟨6, by omega, by omega, rfl⟩
      · by_cases z : decide (V.int (cellF sc 29 % 8) = V.int 1) = true
        · exact ⟨6, by omega, by omega, by rw [if_pos z]; rfl⟩
        · exact ⟨4, by omega, by omega, by rw [if_neg z]; rfl⟩
    refine ⟨_, rfl, a, sc, 29, rfl, hsc, by decide, _, _, rfl, rfl, (by show (0 : Int) < 8; decide), rfl, .inr ⟨_, rfl, _, _, rfl, rfl, .inl (by decide), _, _, rfl, rfl, (by show 2 ≤ sizeLine; decide), fun l0 hl0 => ?_⟩⟩
    refine ⟨_, rfl, _, _, rfl, rfl, l0, _, _, nv most, rfl, rfl, SqL.of upd_same, ?_, ?_⟩
    · show atI _ (((c0 + 1 : Nat) : Int) - 1) = _
      rw [show ((c0 + 1 : Nat) : Int) - 1 = (c0 : Int) by omega]
      exact atI_nat hmi
    have g0 : Grow H H H (upd H l0 (.lst [V.int 6, V.int (4 + 2 * if decide (V.int (cellF sc 29 % 8) = V.int 1) = true then 1 else 0)])) := (Grow.refl (Same.refl H)).hid _ hl0
    refine ⟨_, rfl, _, rfl, H, a, sc, most, rfl, g0.sub, hsc, hm3, hm6, fun F1 H1 n ds t l g1 fl hnm ht hpl => ?_⟩
    have g1 := g0.trans g1
    refine ⟨t, _, rfl, SqT.of (g1.sub _ _ ht), rfl, _, _, rfl, _, _, rfl, rfl, ?_⟩
    -- floor
    obtain ⟨la, ys, rfl, hla, hps⟩ := id hpl
    refine ⟨_, rfl, _, rfl, la, ys, rfl, .inl (SqL.of (g1.sub _ _ hla)), fun l2 hl2 => ?_⟩
    have g2 := g1.alloc (.lst ys) hl2
    have s2 := same_new (.lst ys) (g1.sub.free hl2)
    have hn1 := fl.n1
    have hn6 := fl.n6
    refine fun x dx hx hdx ne => ?_
    refine mk_floor (n := n) (ds := ds) (v := .ref l2) g2 ⟨l2, ys, rfl, upd_same, paired_ext (fun _ _ h => h.ext s2) hps⟩ fl.floorB (by have := fl.len; omega) hx hdx ne fun F3 H3 g3 s3 hfl => ⟨rfl, ?_⟩
    have hpl3 := (hpl.ext s2).ext s3
    -- chasers, runner
    refine ⟨_, rfl, _, rfl, _, rfl, F3, a, sc, 26, n, c0 + 1, rfl, g3.sub, hsc.ext g3.ss, hn1, by omega, fun F4 H4 t4 l4 cs r g4 hcl hcn hrn ht4 hcs _ => ?_⟩
    have g4' := g3.trans g4
    obtain ⟨ca, rfl, hca⟩ := hcs
    refine ⟨t4, _, rfl, SqT.of (g4'.sub _ _ ht4), rfl, _, _, rfl, _, _, rfl, rfl, ?_⟩
    have hfl4 := hfl.ext g4.ss
    have hpl4 := hpl3.ext g4.ss
    have hcc : c0 + 1 = 1 ∨ c0 + 1 = 2 := by omega
    have stB : ∀ (cs : List Nat) (r : Nat), cs ∈ cssF n (c0 + 1) → r < n → standB n (asI cs) (r : Int) = true ∧ cs.length = c0 + 1 := fun cs r h hr => by
      obtain ⟨h1, h2⟩ := cssF_mem.mp h
      exact ⟨standB_of (by omega) (by omega) h2 hr, h1⟩
    have hcs0 : cs ∈ cssF n (c0 + 1) := cssF_mem.mpr ⟨hcl, hcn⟩
    -- here
    refine ⟨_, rfl, _, rfl, ca, _, rfl, .inl (SqL.of (g4'.sub _ _ hca)), fun h5 hh5 => ?_⟩
    have g5 := g4'.alloc (.lst (cs.map nv)) hh5
    have s5 := same_new (.lst (cs.map nv)) (g4'.sub.free hh5)
    have hst0 := (stB cs r hcs0 hrn).1
    refine ⟨_, rfl, _, .ref x, n, ds, h5, asI cs, (r : Int), rfl, g5.sub, hfl4.ext s5, hn6, by rw [intsV_asI]; exact upd_same, by rw [asI_len]; omega, fun cs' r' e1 e2 _ F6 H6 g6 => ?_, fun z => by rw [hst0] at z; cases z⟩
    have e1 := asI_inj e1
    have e2 : r = r' := by omega
    subst e1 e2
    rw [hcl]
    have g6' := g5.trans g6
    have s6 := s5.trans g6.ss
    have hca6 := g6.ss _ _ (s5 _ _ hca)
    -- told(floor, list(chasers), runner)[0]
    refine ⟨_, rfl, _, rfl, ?_⟩
    cases hrk : ranksF n ds (c0 + 1) cs r with
    | none =>
      refine iteDT rfl ?_
      have hni : r ∉ cs := fun z => by
        have := (rk_zero (ds := ds) hcs0).mpr z
        rw [hrk] at this
        cases this
      refine ⟨_, rfl, _, rfl, ca, _, rfl, .inl (SqL.of (g6'.sub _ _ hca6)), fun h7 hh7 => ?_⟩
      have g7 := g6'.alloc (.lst (cs.map nv)) hh7
      have s7 := same_new (.lst (cs.map nv)) (g6'.sub.free hh7)
      refine ⟨_, rfl, _, .ref x, n, ds, h7, cs, r, rfl, g7.sub, hfl4.ext (s6.trans s7), hn6, upd_same, hst0, fun z => absurd z hni, fun _ _ F8 H8 t8 g8 ht8 => ?_, fun h _ z => by rw [hcl, hrk] at z; cases z⟩
      refine ⟨t8, _, 0, nv 3, rfl, rfl, SqT.of ((g7.trans g8).sub _ _ ht8), rfl, rfl, ?_⟩
      show Q (.bl (decide (nv 3 = V.int 3))) H8
      rw [decide_eq_true (show nv 3 = V.int 3 from rfl)]
      exact k H8
    | some h0 =>
      refine iteDF (fun z => by cases z) ⟨_, rfl, rfl, _, rfl, ?_⟩
      by_cases c : opN (some h0) = V.int 0
      · have c' : h0 = 0 := by have := V.int.inj (show V.int (h0 : Int) = V.int 0 from c); omega
        subst c'
        have hin : r ∈ cs := (rk_zero (ds := ds) hcs0).mp hrk
        have hcaI := hca6
        rw [← intsV_asI] at hcaI
        refine iteDT c ⟨_, rfl, _, rfl, ca, _, rfl, .inl (SqL.of (g6'.sub _ _ hcaI)), rfl, flat_intsV _, ?_⟩
        rw [show nv r = V.int (r : Int) from rfl, inV_intsV, decide_eq_true (mem_asI.mpr hin)]
        refine ⟨true, rfl, iteT ?_⟩
        refine ⟨_, rfl, _, rfl, ca, _, rfl, .inl (SqL.of (g6'.sub _ _ hca6)), fun h7 hh7 => ?_⟩
        have g7 := g6'.alloc (.lst (cs.map nv)) hh7
        have s7 := same_new (.lst (cs.map nv)) (g6'.sub.free hh7)
        refine ⟨_, rfl, _, .ref x, n, ds, h7, cs, r, rfl, g7.sub, hfl4.ext (s6.trans s7), hn6, upd_same, hst0, fun _ F8 H8 t8 g8 ht8 => ?_, fun z => absurd hin z, fun _ z => absurd hin z⟩
        refine ⟨t8, _, 0, nv 2, rfl, rfl, SqT.of ((g7.trans g8).sub _ _ ht8), rfl, rfl, ?_⟩
        show Q (.bl (decide (nv 2 = V.int 2))) H8
        rw [decide_eq_true (show nv 2 = V.int 2 from rfl)]
        exact k H8
      · have hpos0 : 1 ≤ h0 := by
          refine Classical.byContradiction fun z => c ?_
          have : h0 = 0 := by omega
          subst this
          rfl
        have hni0 : r ∉ cs := fun z => by
          have := (rk_zero (ds := ds) hcs0).mpr z
          rw [hrk] at this
          cases this
          omega
        refine iteDF c ?_
        -- flees
        refine ⟨_, rfl, a, sc, 25, rfl, (hsc.ext g6'.ss).ext g6'.sub, by decide, _, _, rfl, rfl, (by show (0 : Int) < 2; decide), rfl, ?_⟩
        generalize (decide (V.int (cellF sc 25 % 2) = V.int 1)) = fl9
        -- for turn in range(here)
        refine ⟨_, rfl, (h0 : Int), rfl, ?_, ?_, for_range (lo := 0) (n := (h0 : Int).toNat) (fun i σ H' => ∃ (F : Hp) (cb : Addr) (cs : List Nat) (r kk : Nat) (o10 o11 o12 o13 o14 o15 : Option V),
            σ = [some (.ref a), some (nv (c0 + 1)), some (nv most), some (nv n), some (.ref la), some (.ref x), some (.ref cb), some (nv r), some (nv h0), some (.bl fl9), o10, o11, o12, o13, o14, o15] ∧ Grow H H F H' ∧ Same F4 F ∧
            F cb = some (.lst (cs.map nv)) ∧ cs ∈ cssF n (c0 + 1) ∧ r < n ∧ r ∉ cs ∧ ranksF n ds (c0 + 1) cs r = some kk ∧ kk + i ≤ h0 ∧ (fl9 = true → kk + i = h0))
          ⟨F6, ca, cs, r, h0, _, _, _, _, _, _, rfl, g6', s6, hca6, hcs0, hrn, hni0, hrk, Nat.le_refl _, fun _ => rfl⟩ ?_ ?_⟩
        · have := rk_small hcc hn6 hrk
          omega
        · have := rk_small hcc hn6 hrk
          omega
        · rintro i σ H7 hi ⟨F7, cb, cs, r, kk, o10, o11, o12, o13, o14, o15, rfl, g7, s7, hcb, hcs, hrn, hni, hrk, hkk, hfk⟩
          have hi : i < h0 := by omega
          rw [Int.zero_add]
          obtain ⟨hst, hcl⟩ := stB cs r hcs hrn
          obtain ⟨h, rfl⟩ : ∃ h, kk = h + 1 := by
            cases kk with
            | zero => exact absurd ((rk_zero (ds := ds) hcs).mp hrk) hni
            | succ h => exact ⟨h, rfl⟩
          obtain ⟨_, hg, hb⟩ := chF_step (n := n) (ds := ds) (cs := cs) (r := r) (h := h) (by rw [hcl]; exact hrk)
          obtain ⟨g, hgd⟩ : ∃ g, g = chF n ds cs r (h + 1) := ⟨_, rfl⟩
          rw [← hgd] at hg hb
          rw [hcl] at hb
          obtain ⟨hgc, hgl, hgn⟩ := gl_near hcc hcs hg
          -- handed, found
          refine ⟨_, rfl, cb, _, rfl, .inl (SqL.of (g7.sub _ _ hcb)), fun hd hhd => ?_⟩
          have g8 := g7.alloc (.lst (cs.map nv)) hhd
          have s8 := same_new (.lst (cs.map nv)) (g7.sub.free hhd)
          refine ⟨_, rfl, _, rfl, _, rfl, _, .ref x, n, ds, hd, cs, r, rfl, g8.sub, hfl4.ext (s7.trans s8), hn6, upd_same, hst, fun z => absurd z hni, (fun _ z => by rw [hcl, hrk] at z; cases z), fun h' _ hk2 F9 H9 tt b g9 ht9 Fb9 Hb9 Hb8 => ?_⟩
          rw [hcl, hrk] at hk2
          have hk2 : h + 1 = h' := Option.some.inj hk2
          subst hk2
          rw [← hgd] at Hb9
          have g9' := g8.trans g9
          have s9 := (s7.trans s8).trans g9.ss
          have hcb9 : F9 cb = some (.lst (cs.map nv)) := g9.ss _ _ (s8 _ _ hcb)
          have hhd9 : F9 hd = some (.lst (cs.map nv)) := g9.ss _ _ upd_same
          have HbH : H b = none := g8.keep.free Hb8
          have nbt : b ≠ tt := fun e => by
            have := g9.sub _ _ ht9
            rw [← e, Hb9] at this
            cases this
          -- if found[0] != 0 or handed != chasers or not goes
          refine ⟨_, rfl, tt, _, 0, nv 0, rfl, rfl, SqT.of (g9'.sub _ _ ht9), rfl, rfl, _, rfl, iteNF rfl ?_⟩
          refine ⟨_, rfl, _, rfl, _, _, dIs_dp (SqL.of (by rw [intsV_asI]; exact g9'.sub _ _ hhd9)), dIs_dp (SqL.of (by rw [intsV_asI]; exact g9'.sub _ _ hcb9)), dIs_shaped (asI cs), dIs_shaped (asI cs), _, rfl, ?_⟩
          rw [dIs_eqL]
          refine iteNF rfl ?_
          refine ⟨_, rfl, _, rfl, _, rfl, _, rfl, tt, _, 1, .ref b, rfl, rfl, SqT.of (g9'.sub _ _ ht9), rfl, F9, n, _, ds, cb, b, cs, g, rfl, g9'.sub, hpl4.ext s9, hn6, g9'.sub _ _ hcb9, Hb9, by omega, hgl, hgn, fun F10 H10 g10 => ⟨true, rfl, iteF ?_⟩⟩
          have g10' := g9'.trans g10
          have hb10 := g10.keep _ _ Hb9
          have Fb10 : F10 b = none := g10.out Hb9 Fb9
          have ht10 := g10.ss _ _ ht9
          -- chasers = list(found[1])
          refine ⟨_, rfl, tt, _, 1, .ref b, rfl, rfl, SqT.of (g10'.sub _ _ ht10), rfl, b, _, rfl, .inl (SqL.of hb10), fun c2 hc2 => ?_⟩
          have nbc : b ≠ c2 := ne_of_none hb10 hc2
          have g11 := g10'.alloc (.lst (g.map nv)) hc2
          have s11 := same_new (.lst (g.map nv)) (g10'.sub.free hc2)
          have hc11 : (upd F10 c2 (.lst (g.map nv))) c2 = some (.lst (g.map nv)) := upd_same
          have hb11 : (upd H10 c2 (.lst (g.map nv))) b = some (.lst (g.map nv)) := by rw [upd_ne nbc]; exact hb10
          have Fb11 : (upd F10 c2 (.lst (g.map nv))) b = none := by rw [upd_ne nbc]; exact Fb10
          have ht11 := s11 _ _ ht10
          -- found[1].append(9)
          refine ⟨_, rfl, tt, _, 1, .ref b, rfl, rfl, SqT.of (g11.sub _ _ ht11), rfl, .inl ⟨rfl, _, SqL.of hb11⟩, b, _, .int 9, rfl, rfl, hb11, by rw [sizeLine_eq, List.length_map]; omega, ?_⟩
          have g12 := g11.mut (.lst (g.map nv ++ [V.int 9])) Fb11 HbH
          have s12 := (s9.trans g10.ss).trans s11
          generalize upd (upd H10 c2 (.lst (g.map nv))) b (.lst (g.map nv ++ [V.int 9])) = H12 at g12
          generalize upd F10 c2 (.lst (g.map nv)) = F12 at g12 s12 hc11
          clear g7 g8 g9 g9' g10 g10' g11 s7 s8 s9 s11 hcb hcb9 hhd9 ht9 ht10 ht11 hb10 hb11 Fb10 Fb11 Hb9 Fb9 hhd Hb8
          have hc11I := hc11
          rw [← intsV_asI] at hc11I
          obtain ⟨hstg, hgl2⟩ : (∀ y : Nat, y < n → standB n (asI g) (y : Int) = true) ∧ g.length = c0 + 1 := ⟨fun y hy => (stB g y hgc hy).1, (stB g r hgc hrn).2⟩
          -- if runner not in chasers
          refine ⟨fun σ H' => ∃ (F : Hp) (r' k' : Nat) (p13 p14 : Option V), σ = [some (.ref a), some (nv (c0 + 1)), some (nv most), some (nv n), some (.ref la), some (.ref x), some (.ref c2), some (nv r'), some (nv h0), some (.bl fl9), some (nv i), some (.ref hd), some (.ref tt), p13, p14, o15] ∧ Grow H H F H' ∧ Same F12 F ∧
            r' < n ∧ ranksF n ds (c0 + 1) g r' = some k' ∧ k' ≤ h ∧ (fl9 = true → k' = h), ?_, ?_⟩
          · refine ⟨_, rfl, _, rfl, c2, _, rfl, .inl (SqL.of (g12.sub _ _ hc11I)), rfl, flat_intsV _, ?_⟩
            rw [show nv r = V.int (r : Int) from rfl, notInV_intsV]
            refine ⟨_, rfl, ?_⟩
            by_cases c : r ∈ g
            · have e0 : h = 0 := by
                rw [behF_in c] at hb
                exact (Option.some.inj hb).symm
              exact iteNF (mem_asI.mpr c) ⟨F12, r, 0, _, _, rfl, g12, Same.refl _, hrn, (rk_zero (ds := ds) hgc).mpr c, by omega, fun _ => e0.symm⟩
            · refine iteNT (fun z => c (mem_asI.mp z)) ?_
              obtain ⟨hbl, hbg⟩ := beh_le hb c
              -- near
              refine ⟨_, rfl, _, rfl, _, rfl, F12, n, _, ds, r, rfl, g12.sub, hpl4.ext s12, by omega, fun F13 H13 u13 g13 hu13 => ?_⟩
              obtain ⟨nl, rfl, hnl⟩ := hu13
              have g13' := g12.trans g13
              have hrr : r ∈ nearF n ds r := nearF_mem.mpr ⟨hrn, joins_refl _ _⟩
              have hpos : 1 ≤ (nearF n ds r).length := List.length_pos_of_mem hrr
              -- goal = near[..]
              obtain ⟨m, hm, hm'⟩ := emod_nat (cellF sc (30 + (i : Int))) hpos
              have hym : (nearF n ds r)[m]? = some (nearF n ds r)[m] := List.getElem?_eq_getElem hm'
              obtain ⟨y, hy⟩ : ∃ y, y = (nearF n ds r)[m] := ⟨_, rfl⟩
              rw [← hy] at hym
              have hymem : y ∈ nearF n ds r := List.mem_of_getElem? hym
              refine ⟨_, rfl, _, rfl, _, rfl, _, _, rfl, rfl, a, sc, _, rfl, (hsc.ext g13'.ss).ext g13'.sub, by omega, _, rfl, nl, _, rfl, .inl (SqL.of (g13'.sub _ _ hnl)), _, _, rfl, rfl, by rw [List.length_map]; omega, ?_⟩
              refine ⟨nl, _, _, nv y, rfl, rfl, SqL.of (g13'.sub _ _ hnl), ?_, ?_⟩
              · rw [List.length_map]
                show atI _ (cellF sc (30 + (i : Int)) % ((nearF n ds r).length : Int)) = _
                rw [hm]
                exact atI_nat (by rw [List.getElem?_map, hym]; rfl)
              -- if flees
              refine ⟨fun σ H' => ∃ (F : Hp) (z k' : Nat), σ = [some (.ref a), some (nv (c0 + 1)), some (nv most), some (nv n), some (.ref la), some (.ref x), some (.ref c2), some (nv r), some (nv h0), some (.bl fl9), some (nv i), some (.ref hd), some (.ref tt), some (.ref nl), some (nv z), o15] ∧ Grow H H F H' ∧ Same F13 F ∧
                z ∈ nearF n ds r ∧ ranksF n ds (c0 + 1) g z = some k' ∧ k' ≤ h ∧ (fl9 = true → k' = h), ?_, ?_⟩
              · refine ⟨_, rfl, fl9, rfl, ?_⟩
                cases fl9 with
                | false =>
                  obtain ⟨ky, hky1, hky2⟩ := hbl y hymem
                  exact iteF ⟨F13, y, ky, rfl, g13', Same.refl _, hymem, hky1, hky2, fun z => nomatch z⟩
                | true =>
                  refine iteT ⟨_, rfl, _, rfl, c2, _, rfl, .inl (SqL.of (g13'.sub _ _ (g13.ss _ _ hc11))), fun h14 hh14 => ?_⟩
                  have g14 := g13'.alloc (.lst (g.map nv)) hh14
                  have s14 := same_new (.lst (g.map nv)) (g13'.sub.free hh14)
                  refine ⟨_, rfl, _, .ref x, n, ds, h14, asI g, (r : Int), rfl, g14.sub, hfl4.ext ((s12.trans g13.ss).trans s14), hn6, by rw [intsV_asI]; exact upd_same, by rw [asI_len]; omega, fun cs' r' e1 e2 _ _ F15 H15 g15 => ?_, (fun z => by rw [hstg r hrn] at z; cases z), fun _ z => absurd (mem_asI.mp z) c⟩
                  have e1 := asI_inj e1
                  have e2 : r = r' := by omega
                  subst e1 e2
                  rw [hgl2]
                  obtain ⟨Mx, m1, m2, _, m4⟩ := flF_max (L := ranksF n ds (c0 + 1) g) (nearF n ds r) none (fun p hp => by obtain ⟨kp, e, _⟩ := hbl p hp; rw [e]; rfl) (.inr (fun e => by rw [e] at hrr; cases hrr)) (fun _ _ e => nomatch e)
                  have hmem : flF (ranksF n ds (c0 + 1) g) (nearF n ds r) none ∈ nearF n ds r := by
                    rcases m4 with e | ⟨_, e⟩
                    · exact e
                    · cases e
                  have hMx : Mx = h := by
                    obtain ⟨kz, e1, e2⟩ := hbl _ hmem
                    rw [m1] at e1
                    have e1 := Option.some.inj e1
                    rcases hbg with e | ⟨p, hp, e⟩
                    · omega
                    · have := m2 p hp h e
                      omega
                  generalize flF (ranksF n ds (c0 + 1) g) (nearF n ds r) none = z at m1 hmem
                  exact ⟨F15, z, Mx, rfl, g14.trans g15, s14.trans g15.ss, hmem, m1, by omega, fun _ => hMx⟩
              · rintro σ H14 ⟨F14, z, k', rfl, g14, s14, hz, hrz, hkz, hfz⟩
                have hnl14 := s14 _ _ hnl
                rw [nvs_intsV] at hnl14
                refine ⟨_, rfl, _, rfl, nl, _, rfl, .inl (SqL.of (g14.sub _ _ hnl14)), rfl, flat_intsV _, ?_⟩
                rw [show nv z = V.int (z : Int) from rfl, notInV_intsV]
                exact ⟨_, rfl, iteNF (mem_asI.mpr hz) ⟨_, rfl, F14, z, k', _, _, rfl, g14, g13.ss.trans s14, (nearF_mem.mp hz).1, hrz, hkz, hfz⟩⟩
          rintro σ H13 ⟨F13, r', k', p13, p14, rfl, g13, s13, hrn', hrk', hkh, hfh⟩
          have hc13 := s13 _ _ hc11
          -- rest
          refine ⟨_, rfl, _, rfl, c2, _, rfl, .inl (SqL.of (g13.sub _ _ hc13)), fun h14 hh14 => ?_⟩
          have g14 := g13.alloc (.lst (g.map nv)) hh14
          have s14 := same_new (.lst (g.map nv)) (g13.sub.free hh14)
          refine ⟨_, rfl, _, .ref x, n, ds, h14, asI g, (r' : Int), rfl, g14.sub, hfl4.ext ((s12.trans s13).trans s14), hn6, by rw [intsV_asI]; exact upd_same, by rw [asI_len]; omega, fun cs' r'' e1 e2 _ F15 H15 g15 => ?_, fun z => by rw [hstg r' hrn'] at z; cases z⟩
          have e1 := asI_inj e1
          have e2 : r' = r'' := by omega
          subst e1 e2
          rw [hgl2, hrk']
          have g15' := g14.trans g15
          have s15 := (s13.trans s14).trans g15.ss
          have hc15 := s15 _ _ hc11
          have hc15I := hc15
          rw [← intsV_asI] at hc15I
          -- if not whole ..
          refine ⟨fun σ H' => H' = H15 ∧ σ = [some (.ref a), some (nv (c0 + 1)), some (nv most), some (nv n), some (.ref la), some (.ref x), some (.ref c2), some (nv r'), some (nv h0), some (.bl fl9), some (nv i), some (.ref hd), some (.ref tt), p13, p14, some (nv k')], ?_, ?_⟩
          · refine ⟨_, rfl, (k' : Int), rfl, true, rfl, iteF ?_⟩
            refine ⟨_, rfl, _, rfl, _, _, rfl, rfl, _, rfl, _, _, rfl, rfl, _, _, rfl, rfl, _, rfl, iteDF (by omega) ?_⟩
            refine ⟨_, rfl, fl9, rfl, ?_⟩
            cases fl9 with
            | false => exact iteF (iteF ⟨rfl, rfl⟩)
            | true =>
              have e1 := hfh rfl
              have e2 := hfk rfl
              exact iteT ⟨_, rfl, _, rfl, _, _, rfl, rfl, _, rfl, _, _, rfl, rfl, _, _, rfl, rfl, _, rfl, iteDF (by omega) ⟨rfl, rfl⟩⟩
          rintro σ H16 ⟨rfl, rfl⟩
          -- if runner in chasers
          refine ⟨_, rfl, _, rfl, c2, _, rfl, .inl (SqL.of (g15'.sub _ _ hc15I)), rfl, flat_intsV _, ?_⟩
          rw [show nv r' = V.int (r' : Int) from rfl, inV_intsV]
          refine ⟨_, rfl, ?_⟩
          by_cases c : r' ∈ g
          · refine iteDT (mem_asI.mpr c) ?_
            refine ⟨_, rfl, _, rfl, c2, _, rfl, .inl (SqL.of (g15'.sub _ _ hc15)), fun h17 hh17 => ?_⟩
            have g17 := g15'.alloc (.lst (g.map nv)) hh17
            have s17 := same_new (.lst (g.map nv)) (g15'.sub.free hh17)
            refine ⟨_, rfl, _, .ref x, n, ds, h17, g, r', rfl, g17.sub, hfl4.ext ((s12.trans s15).trans s17), hn6, upd_same, hstg r' hrn', fun _ F18 H18 t18 g18 ht18 => ?_, fun z => absurd c z, fun _ z => absurd c z⟩
            refine ⟨t18, _, 0, nv 2, rfl, rfl, SqT.of ((g17.trans g18).sub _ _ ht18), rfl, rfl, ?_⟩
            show Q (.bl (decide (nv 2 = V.int 2))) H18
            rw [decide_eq_true (show nv 2 = V.int 2 from rfl)]
            exact k H18
          · exact iteDF (fun z => c (mem_asI.mp z)) ⟨F15, c2, g, r', k', _, _, _, _, _, _, rfl, g15', s12.trans s15, hc15, hgc, hrn', c, hrk', by omega, fun z => by have e1 := hfh z; have e2 := hfk z; omega⟩
        · rintro σ H7 ⟨F7, cb, cs, r, kk, o10, o11, o12, o13, o14, o15, rfl, g7, s7, hcb, hcs, hrn, hni, hrk, hkk, hfk⟩
          exfalso
          have e : kk = 0 := by omega
          subst e
          exact hni ((rk_zero (ds := ds) hcs).mp hrk)
end
end CF

namespace CF
open PySem L2
theorem all_mk {l : PySem.W.OpenLaw} {w : World} {K : PySem.W.Frag} {h : Heap} {mg : Str → Option Value} {fa C f0 f1 f2 f3 f4 f5 f6 f7 f8 f9 f10 f11 f12 f13 f14 f15 f16 f17 f18 f19 f20 f21 f22 f23 f24 XNoFloor XNoStanding XFree XCaught XNoNumber XChaseError : Addr} (X : K.In h) (G : h.Ns mainGlobals mg) (hfa : mg "law" = some (.ref fa))
    {od0 an0 od1 an1 od2 an2 od3 an3 od4 an4 od5 an5 od6 an6 od7 an7 od8 an8 od9 an9 od10 an10 od11 an11 od12 an12 od13 an13 od14 an14 od15 an15 od16 an16 od17 an17 od18 an18 od19 an19 od20 an20 od21 an21 od22 an22 od23 an23 od24 an24 : Option Addr} {sl0 sl1 sl2 sl3 sl4 sl5 sl6 sl7 sl8 sl9 sl10 sl11 sl12 sl13 sl14 sl15 sl16 sl17 sl18 sl19 sl20 sl21 sl22 sl23 sl24 : Array (Option Value)} {oc0 kV0 dc0 pm0 cd0 ct0 oc1 kV1 dc1 pm1 cd1 ct1 oc2 kV2 dc2 pm2 cd2 ct2 oc3 kV3 dc3 pm3 cd3 ct3 oc4 kV4 dc4 pm4 cd4 ct4 oc5 kV5 dc5 pm5 cd5 ct5 oc6 kV6 dc6 pm6 cd6 ct6 oc7 kV7 dc7 pm7 cd7 ct7 oc8 kV8 dc8 pm8 cd8 ct8 oc9 kV9 dc9 pm9 cd9 ct9 oc10 kV10 dc10 pm10 cd10 ct10 oc11 kV11 dc11 pm11 cd11 ct11 oc12 kV12 dc12 pm12 cd12 ct12 oc13 kV13 dc13 pm13 cd13 ct13 oc14 kV14 dc14 pm14 cd14 ct14 oc15 kV15 dc15 pm15 cd15 ct15 oc16 kV16 dc16 pm16 cd16 ct16 oc17 kV17 dc17 pm17 cd17 ct17 oc18 kV18 dc18 pm18 cd18 ct18 oc19 kV19 dc19 pm19 cd19 ct19 oc20 kV20 dc20 pm20 cd20 ct20 oc21 kV21 dc21 pm21 cd21 ct21 oc22 kV22 dc22 pm22 cd22 ct22 oc23 kV23 dc23 pm23 cd23 ct23 oc24 kV24 dc24 pm24 cd24 ct24 : Value} {t_MOST : Tok}
    (aC : PySem.W.nsIn K mainGlobals "Floor" = some (some (.ref C)))
    (a0 : PySem.W.nsIn K mainGlobals "_law_cell_at" = some (some (.ref f0)))
    (l0 : K.lookup f0 = some ⟨oc0, od0, .func (PySem.W.fnOf "_law_cell_at" "_law_cell_at" (defArgs s_law_cell_at) (defBody s_law_cell_at) (defScope s_law_cell_at) .none kV0 dc0 pm0 an0 cd0 ct0), sl0⟩)
    (c0 : PySem.W.codeIn K cd0 "_law_cell_at" = true)
    (k0 : PySem.W.keepIn K (.ref f0) = true)
    (a1 : PySem.W.nsIn K mainGlobals "_law_floor_by" = some (some (.ref f1)))
    (l1 : K.lookup f1 = some ⟨oc1, od1, .func (PySem.W.fnOf "_law_floor_by" "_law_floor_by" (defArgs s_law_floor_by) (defBody s_law_floor_by) (defScope s_law_floor_by) .none kV1 dc1 pm1 an1 cd1 ct1), sl1⟩)
    (c1 : PySem.W.codeIn K cd1 "_law_floor_by" = true)
    (k1 : PySem.W.keepIn K (.ref f1) = true)
    (a2 : PySem.W.nsIn K mainGlobals "all_reached" = some (some (.ref f2)))
    (l2 : K.lookup f2 = some ⟨oc2, od2, .func (PySem.W.fnOf "all_reached" "all_reached" (defArgs s_all_reached) (defBody s_all_reached) (defScope s_all_reached) .none kV2 dc2 pm2 an2 cd2 ct2), sl2⟩)
    (c2 : PySem.W.codeIn K cd2 "all_reached" = true)
    (k2 : PySem.W.keepIn K (.ref f2) = true)
    (a3 : PySem.W.findIn K (.ref C) "__init__" = some (some (.ref f3)))
    (i3 : PySem.W.isFn K (.ref f3) = true)
    (l3 : K.lookup f3 = some ⟨oc3, od3, .func (PySem.W.fnOf "__init__" "Floor.__init__" (defArgs s_init) (defBody s_init) (defScope s_init) .none kV3 dc3 pm3 an3 cd3 ct3), sl3⟩)
    (c3 : PySem.W.codeIn K cd3 "Floor.__init__" = true)
    (k3 : PySem.W.keepIn K (.ref f3) = true)
    (a4 : PySem.W.nsIn K mainGlobals "_law_standing_by" = some (some (.ref f4)))
    (l4 : K.lookup f4 = some ⟨oc4, od4, .func (PySem.W.fnOf "_law_standing_by" "_law_standing_by" (defArgs s_law_standing_by) (defBody s_law_standing_by) (defScope s_law_standing_by) .none kV4 dc4 pm4 an4 cd4 ct4), sl4⟩)
    (c4 : PySem.W.codeIn K cd4 "_law_standing_by" = true)
    (k4 : PySem.W.keepIn K (.ref f4) = true)
    (a5 : PySem.W.nsIn K mainGlobals "is_standing" = some (some (.ref f5)))
    (l5 : K.lookup f5 = some ⟨oc5, od5, .func (PySem.W.fnOf "is_standing" "is_standing" (defArgs s_is_standing) (defBody s_is_standing) (defScope s_is_standing) .none kV5 dc5 pm5 an5 cd5 ct5), sl5⟩)
    (c5 : PySem.W.codeIn K cd5 "is_standing" = true)
    (k5 : PySem.W.keepIn K (.ref f5) = true)
    (a6 : PySem.W.nsIn K mainGlobals "asked_standing" = some (some (.ref f6)))
    (l6 : K.lookup f6 = some ⟨oc6, od6, .func (PySem.W.fnOf "asked_standing" "asked_standing" (defArgs s_asked_standing) (defBody s_asked_standing) (defScope s_asked_standing) .none kV6 dc6 pm6 an6 cd6 ct6), sl6⟩)
    (c6 : PySem.W.codeIn K cd6 "asked_standing" = true)
    (k6 : PySem.W.keepIn K (.ref f6) = true)
    (a7 : PySem.W.findIn K (.ref C) "joins" = some (some (.ref f7)))
    (i7 : PySem.W.isFn K (.ref f7) = true)
    (l7 : K.lookup f7 = some ⟨oc7, od7, .func (PySem.W.fnOf "joins" "Floor.joins" (defArgs s_joins) (defBody s_joins) (defScope s_joins) .none kV7 dc7 pm7 an7 cd7 ct7), sl7⟩)
    (c7 : PySem.W.codeIn K cd7 "Floor.joins" = true)
    (k7 : PySem.W.keepIn K (.ref f7) = true)
    (a8 : PySem.W.findIn K (.ref C) "near" = some (some (.ref f8)))
    (i8 : PySem.W.isFn K (.ref f8) = true)
    (l8 : K.lookup f8 = some ⟨oc8, od8, .func (PySem.W.fnOf "near" "Floor.near" (defArgs s_near) (defBody s_near) (defScope s_near) .none kV8 dc8 pm8 an8 cd8 ct8), sl8⟩)
    (c8 : PySem.W.codeIn K cd8 "Floor.near" = true)
    (k8 : PySem.W.keepIn K (.ref f8) = true)
    (a9 : PySem.W.nsIn K mainGlobals "around_of" = some (some (.ref f9)))
    (l9 : K.lookup f9 = some ⟨oc9, od9, .func (PySem.W.fnOf "around_of" "around_of" (defArgs s_around_of) (defBody s_around_of) (defScope s_around_of) .none kV9 dc9 pm9 an9 cd9 ct9), sl9⟩)
    (c9 : PySem.W.codeIn K cd9 "around_of" = true)
    (k9 : PySem.W.keepIn K (.ref f9) = true)
    (a10 : PySem.W.nsIn K mainGlobals "goings" = some (some (.ref f10)))
    (l10 : K.lookup f10 = some ⟨oc10, od10, .func (PySem.W.fnOf "goings" "goings" (defArgs s_goings) (defBody s_goings) (defScope s_goings) .none kV10 dc10 pm10 an10 cd10 ct10), sl10⟩)
    (c10 : PySem.W.codeIn K cd10 "goings" = true)
    (k10 : PySem.W.keepIn K (.ref f10) = true)
    (a11 : PySem.W.nsIn K mainGlobals "behind" = some (some (.ref f11)))
    (l11 : K.lookup f11 = some ⟨oc11, od11, .func (PySem.W.fnOf "behind" "behind" (defArgs s_behind) (defBody s_behind) (defScope s_behind) .none kV11 dc11 pm11 an11 cd11 ct11), sl11⟩)
    (c11 : PySem.W.codeIn K cd11 "behind" = true)
    (k11 : PySem.W.keepIn K (.ref f11) = true)
    (a12 : PySem.W.nsIn K mainGlobals "more_of" = some (some (.ref f12)))
    (l12 : K.lookup f12 = some ⟨oc12, od12, .func (PySem.W.fnOf "more_of" "more_of" (defArgs s_more_of) (defBody s_more_of) (defScope s_more_of) .none kV12 dc12 pm12 an12 cd12 ct12), sl12⟩)
    (c12 : PySem.W.codeIn K cd12 "more_of" = true)
    (k12 : PySem.W.keepIn K (.ref f12) = true)
    (a13 : PySem.W.nsIn K mainGlobals "all_ranks" = some (some (.ref f13)))
    (l13 : K.lookup f13 = some ⟨oc13, od13, .func (PySem.W.fnOf "all_ranks" "all_ranks" (defArgs s_all_ranks) (defBody s_all_ranks) (defScope s_all_ranks) .none kV13 dc13 pm13 an13 cd13 ct13), sl13⟩)
    (c13 : PySem.W.codeIn K cd13 "all_ranks" = true)
    (k13 : PySem.W.keepIn K (.ref f13) = true)
    (a14 : PySem.W.nsIn K mainGlobals "rank" = some (some (.ref f14)))
    (l14 : K.lookup f14 = some ⟨oc14, od14, .func (PySem.W.fnOf "rank" "rank" (defArgs s_rank) (defBody s_rank) (defScope s_rank) .none kV14 dc14 pm14 an14 cd14 ct14), sl14⟩)
    (c14 : PySem.W.codeIn K cd14 "rank" = true)
    (k14 : PySem.W.keepIn K (.ref f14) = true)
    (a15 : PySem.W.nsIn K mainGlobals "asked_free" = some (some (.ref f15)))
    (l15 : K.lookup f15 = some ⟨oc15, od15, .func (PySem.W.fnOf "asked_free" "asked_free" (defArgs s_asked_free) (defBody s_asked_free) (defScope s_asked_free) .none kV15 dc15 pm15 an15 cd15 ct15), sl15⟩)
    (c15 : PySem.W.codeIn K cd15 "asked_free" = true)
    (k15 : PySem.W.keepIn K (.ref f15) = true)
    (a16 : PySem.W.nsIn K mainGlobals "chase_step" = some (some (.ref f16)))
    (l16 : K.lookup f16 = some ⟨oc16, od16, .func (PySem.W.fnOf "chase_step" "chase_step" (defArgs s_chase_step) (defBody s_chase_step) (defScope s_chase_step) .none kV16 dc16 pm16 an16 cd16 ct16), sl16⟩)
    (c16 : PySem.W.codeIn K cd16 "chase_step" = true)
    (k16 : PySem.W.keepIn K (.ref f16) = true)
    (a17 : PySem.W.nsIn K mainGlobals "_law_other" = some (some (.ref f17)))
    (l17 : K.lookup f17 = some ⟨oc17, od17, .func (PySem.W.fnOf "_law_other" "_law_other" (defArgs s_law_other) (defBody s_law_other) (defScope s_law_other) .none kV17 dc17 pm17 an17 cd17 ct17), sl17⟩)
    (c17 : PySem.W.codeIn K cd17 "_law_other" = true)
    (k17 : PySem.W.keepIn K (.ref f17) = true)
    (a18 : PySem.W.nsIn K mainGlobals "_law_told" = some (some (.ref f18)))
    (l18 : K.lookup f18 = some ⟨oc18, od18, .func (PySem.W.fnOf "_law_told" "_law_told" (defArgs s_law_told) (defBody s_law_told) (defScope s_law_told) .none kV18 dc18 pm18 an18 cd18 ct18), sl18⟩)
    (c18 : PySem.W.codeIn K cd18 "_law_told" = true)
    (k18 : PySem.W.keepIn K (.ref f18) = true)
    (a19 : PySem.W.nsIn K mainGlobals "_law_numbers_like" = some (some (.ref f19)))
    (l19 : K.lookup f19 = some ⟨oc19, od19, .func (PySem.W.fnOf "_law_numbers_like" "_law_numbers_like" (defArgs s_law_numbers_like) (defBody s_law_numbers_like) (defScope s_law_numbers_like) .none kV19 dc19 pm19 an19 cd19 ct19), sl19⟩)
    (c19 : PySem.W.codeIn K cd19 "_law_numbers_like" = true)
    (k19 : PySem.W.keepIn K (.ref f19) = true)
    (a20 : PySem.W.nsIn K mainGlobals "_law_near" = some (some (.ref f20)))
    (l20 : K.lookup f20 = some ⟨oc20, od20, .func (PySem.W.fnOf "_law_near" "_law_near" (defArgs s_law_near) (defBody s_law_near) (defScope s_law_near) .none kV20 dc20 pm20 an20 cd20 ct20), sl20⟩)
    (c20 : PySem.W.codeIn K cd20 "_law_near" = true)
    (k20 : PySem.W.keepIn K (.ref f20) = true)
    (a21 : PySem.W.nsIn K mainGlobals "_law_goes" = some (some (.ref f21)))
    (l21 : K.lookup f21 = some ⟨oc21, od21, .func (PySem.W.fnOf "_law_goes" "_law_goes" (defArgs s_law_goes) (defBody s_law_goes) (defScope s_law_goes) .none kV21 dc21 pm21 an21 cd21 ct21), sl21⟩)
    (c21 : PySem.W.codeIn K cd21 "_law_goes" = true)
    (k21 : PySem.W.keepIn K (.ref f21) = true)
    (a22 : PySem.W.nsIn K mainGlobals "flight_step" = some (some (.ref f22)))
    (l22 : K.lookup f22 = some ⟨oc22, od22, .func (PySem.W.fnOf "flight_step" "flight_step" (defArgs s_flight_step) (defBody s_flight_step) (defScope s_flight_step) .none kV22 dc22 pm22 an22 cd22 ct22), sl22⟩)
    (c22 : PySem.W.codeIn K cd22 "flight_step" = true)
    (k22 : PySem.W.keepIn K (.ref f22) = true)
    (a23 : PySem.W.nsIn K mainGlobals "_law_whole" = some (some (.ref f23)))
    (l23 : K.lookup f23 = some ⟨oc23, od23, .func (PySem.W.fnOf "_law_whole" "_law_whole" (defArgs s_law_whole) (defBody s_law_whole) (defScope s_law_whole) .none kV23 dc23 pm23 an23 cd23 ct23), sl23⟩)
    (c23 : PySem.W.codeIn K cd23 "_law_whole" = true)
    (k23 : PySem.W.keepIn K (.ref f23) = true)
    (a24 : PySem.W.nsIn K mainGlobals "law" = some (some (.ref f24)))
    (l24 : K.lookup f24 = some ⟨oc24, od24, .func (PySem.W.fnOf "law" "law" (defArgs s_law) (defBody s_law) (defScope s_law) .none kV24 dc24 pm24 an24 cd24 ct24), sl24⟩)
    (c24 : PySem.W.codeIn K cd24 "law" = true)
    (k24 : PySem.W.keepIn K (.ref f24) = true)
    (pg : PySem.W.plainGet K C Str.empty = true)
    (hd : PySem.W.hasDictIn K C = true)
    (po : PySem.W.plainOver K C = true)
    (sa : PySem.W.findIn K (.ref C) "__setattr__" = some (some (.builtin "object.__setattr__")))
    (mk : PySem.W.makesIn K C = true)
    (kc : PySem.W.keepIn K (.ref C) = true)
    (nP : PySem.W.findIn K (.ref C) "places" = some none)
    (nD : PySem.W.findIn K (.ref C) "doors" = some none)
    (eaNoFloor : PySem.W.nsIn K mainGlobals "NoFloor" = some (some (.ref XNoFloor)))
    (enNoFloor : PySem.W.excIn K XNoFloor [.type "ValueError", .type "Exception", .type "BaseException", .type "object"] "ValueError.__new__" = true)
    (ekNoFloor : PySem.W.keepIn K (.ref XNoFloor) = true)
    (ebNoFloor : PySem.W.subIn K (.ref XNoFloor) (.type "BaseException") = some true)
    (etNoFloor : PySem.W.typeIn K (.ref XNoFloor) = some (.type "type"))
    (eaNoStanding : PySem.W.nsIn K mainGlobals "NoStanding" = some (some (.ref XNoStanding)))
    (enNoStanding : PySem.W.excIn K XNoStanding [.type "ValueError", .type "Exception", .type "BaseException", .type "object"] "ValueError.__new__" = true)
    (ekNoStanding : PySem.W.keepIn K (.ref XNoStanding) = true)
    (ebNoStanding : PySem.W.subIn K (.ref XNoStanding) (.type "BaseException") = some true)
    (etNoStanding : PySem.W.typeIn K (.ref XNoStanding) = some (.type "type"))
    (eaFree : PySem.W.nsIn K mainGlobals "Free" = some (some (.ref XFree)))
    (enFree : PySem.W.excIn K XFree [.type "ValueError", .type "Exception", .type "BaseException", .type "object"] "ValueError.__new__" = true)
    (ekFree : PySem.W.keepIn K (.ref XFree) = true)
    (ebFree : PySem.W.subIn K (.ref XFree) (.type "BaseException") = some true)
    (etFree : PySem.W.typeIn K (.ref XFree) = some (.type "type"))
    (eaCaught : PySem.W.nsIn K mainGlobals "Caught" = some (some (.ref XCaught)))
    (enCaught : PySem.W.excIn K XCaught [.type "ValueError", .type "Exception", .type "BaseException", .type "object"] "ValueError.__new__" = true)
    (ekCaught : PySem.W.keepIn K (.ref XCaught) = true)
    (ebCaught : PySem.W.subIn K (.ref XCaught) (.type "BaseException") = some true)
    (etCaught : PySem.W.typeIn K (.ref XCaught) = some (.type "type"))
    (eaNoNumber : PySem.W.nsIn K mainGlobals "NoNumber" = some (some (.ref XNoNumber)))
    (eaChaseError : PySem.W.nsIn K mainGlobals "ChaseError" = some (some (.ref XChaseError)))
    (rn : PySem.W.specialIn K (.builtin "object.__class__") "__get__" = some (some (.builtin "getset_descriptor.__get__")))
    (rt : PySem.W.takesIn K (.builtin "object.__class__") = some true)
    (rgCaught : PySem.W.findIn K (.ref XCaught) "__getattribute__" = some (some (.builtin "BaseException.__getattribute__")))
    (rkCaught : PySem.W.findIn K (.ref XCaught) "__getattr__" = some none)
    (rhCaught : PySem.W.hasDictIn K XCaught = true)
    (raCaught : PySem.W.findIn K (.ref XCaught) "__class__" = some (some (.builtin "object.__class__")))
    (rmCaught : PySem.W.mroIn K XCaught (.type "object") = some true)
    (qCaught0 : PySem.W.kitOne K (.ref XCaught) (.ref XNoFloor) = some false)
    (qCaught1 : PySem.W.kitOne K (.ref XCaught) (.ref XNoStanding) = some false)
    (qCaught2 : PySem.W.kitOne K (.ref XCaught) (.ref XCaught) = some true)
    (qCaught3 : PySem.W.kitOne K (.ref XCaught) (.ref XFree) = some false)
    (qCaught4 : PySem.W.kitOne K (.ref XCaught) (.ref XNoNumber) = some false)
    (qvCaught : PySem.W.kitOne K (.ref XCaught) (.type "ValueError") = some true)
    (qeCaught : PySem.W.exmOne K (.ref XCaught) (.ref XChaseError) = some true)
    (rgFree : PySem.W.findIn K (.ref XFree) "__getattribute__" = some (some (.builtin "BaseException.__getattribute__")))
    (rkFree : PySem.W.findIn K (.ref XFree) "__getattr__" = some none)
    (rhFree : PySem.W.hasDictIn K XFree = true)
    (raFree : PySem.W.findIn K (.ref XFree) "__class__" = some (some (.builtin "object.__class__")))
    (rmFree : PySem.W.mroIn K XFree (.type "object") = some true)
    (qFree0 : PySem.W.kitOne K (.ref XFree) (.ref XNoFloor) = some false)
    (qFree1 : PySem.W.kitOne K (.ref XFree) (.ref XNoStanding) = some false)
    (qFree2 : PySem.W.kitOne K (.ref XFree) (.ref XCaught) = some false)
    (qFree3 : PySem.W.kitOne K (.ref XFree) (.ref XFree) = some true)
    (qFree4 : PySem.W.kitOne K (.ref XFree) (.ref XNoNumber) = some false)
    (qvFree : PySem.W.kitOne K (.ref XFree) (.type "ValueError") = some true)
    (qeFree : PySem.W.exmOne K (.ref XFree) (.ref XChaseError) = some true)
    (z_int : PySem.W.nsIn K mainGlobals "int" = some none)
    (z_list : PySem.W.nsIn K mainGlobals "list" = some none)
    (z_range : PySem.W.nsIn K mainGlobals "range" = some none)
    (z_len : PySem.W.nsIn K mainGlobals "len" = some none)
    (z_min : PySem.W.nsIn K mainGlobals "min" = some none)
    (z_max : PySem.W.nsIn K mainGlobals "max" = some none)
    (z_sorted : PySem.W.nsIn K mainGlobals "sorted" = some none)
    (z_tuple : PySem.W.nsIn K mainGlobals "tuple" = some none)
    (z_isinstance : PySem.W.nsIn K mainGlobals "isinstance" = some none)
    (z_ValueError : PySem.W.nsIn K mainGlobals "ValueError" = some none)
    (z_bool : PySem.W.nsIn K mainGlobals "bool" = some none)
    (z_zip : PySem.W.nsIn K mainGlobals "zip" = some none)
    (y_MOST : PySem.W.nsIn K mainGlobals "MOST" = some (some (.int 6 t_MOST)))
    : ∃ fd : FuncData, (∀ (s : Shared) (v : Value), BindsTo s fd ⟨[v], []⟩ [("script", v)]) ∧ ∀ base : Heap, K.In base → base.Ns mainGlobals mg → FnOk l.prog w K mg base CX0 8 fa fd ["script"] (spLaw K) := by
  have e := hfa.symm.trans (PySem.W.mg_of X G a24)
  cases e
  have T : FlrC K mg C := ⟨⟨pg, hd, po, sa⟩, nP, nD, PySem.W.mg_of X G aC⟩
  have E_NoFloor : Exn K mg "NoFloor" XNoFloor := ⟨PySem.W.mg_of X G eaNoFloor, enNoFloor, ekNoFloor, ebNoFloor, etNoFloor⟩
  have E_NoStanding : Exn K mg "NoStanding" XNoStanding := ⟨PySem.W.mg_of X G eaNoStanding, enNoStanding, ekNoStanding, ebNoStanding, etNoStanding⟩
  have E_Free : Exn K mg "Free" XFree := ⟨PySem.W.mg_of X G eaFree, enFree, ekFree, ebFree, etFree⟩
  have E_Caught : Exn K mg "Caught" XCaught := ⟨PySem.W.mg_of X G eaCaught, enCaught, ekCaught, ebCaught, etCaught⟩
  have R_Caught : Rfs K mg "Caught" XCaught 2 := ⟨⟨⟨rgCaught, rkCaught, ebCaught, rhCaught, raCaught, rn, rt, rmCaught⟩, ⟨_, PySem.W.mg_of X G eaNoFloor, qCaught0⟩, ⟨_, PySem.W.mg_of X G eaNoStanding, qCaught1⟩, ⟨_, PySem.W.mg_of X G eaCaught, qCaught2⟩, ⟨_, PySem.W.mg_of X G eaFree, qCaught3⟩, ⟨_, PySem.W.mg_of X G eaNoNumber, qCaught4⟩, qvCaught⟩, _, PySem.W.mg_of X G eaChaseError, qeCaught⟩
  have R_Free : Rfs K mg "Free" XFree 3 := ⟨⟨⟨rgFree, rkFree, ebFree, rhFree, raFree, rn, rt, rmFree⟩, ⟨_, PySem.W.mg_of X G eaNoFloor, qFree0⟩, ⟨_, PySem.W.mg_of X G eaNoStanding, qFree1⟩, ⟨_, PySem.W.mg_of X G eaCaught, qFree2⟩, ⟨_, PySem.W.mg_of X G eaFree, qFree3⟩, ⟨_, PySem.W.mg_of X G eaNoNumber, qFree4⟩, qvFree⟩, _, PySem.W.mg_of X G eaChaseError, qeFree⟩
  have n_int : mg "int" = none := PySem.W.mg_none_of X G z_int
  have n_list : mg "list" = none := PySem.W.mg_none_of X G z_list
  have n_range : mg "range" = none := PySem.W.mg_none_of X G z_range
  have n_len : mg "len" = none := PySem.W.mg_none_of X G z_len
  have n_min : mg "min" = none := PySem.W.mg_none_of X G z_min
  have n_max : mg "max" = none := PySem.W.mg_none_of X G z_max
  have n_sorted : mg "sorted" = none := PySem.W.mg_none_of X G z_sorted
  have n_tuple : mg "tuple" = none := PySem.W.mg_none_of X G z_tuple
  have n_isinstance : mg "isinstance" = none := PySem.W.mg_none_of X G z_isinstance
  have n_ValueError : mg "ValueError" = none := PySem.W.mg_none_of X G z_ValueError
  have n_bool : mg "bool" = none := PySem.W.mg_none_of X G z_bool
  have n_zip : mg "zip" = none := PySem.W.mg_none_of X G z_zip
  have g_MOST : ∃ t, mg "MOST" = some (.int 6 t) := ⟨_, PySem.W.mg_of X G y_MOST⟩
  have F__law_cell_at := fun_mk (st := s_law_cell_at) l0 c0 k0
  have b__law_cell_at := F__law_cell_at.binds (ps := ["script", "k"]) fun _ _ _ _ _ _ us hl => match us, hl with | [_, _], _ => rfl
  have F__law_floor_by := fun_mk (st := s_law_floor_by) l1 c1 k1
  have b__law_floor_by := F__law_floor_by.binds (ps := ["script", "most"]) fun _ _ _ _ _ _ us hl => match us, hl with | [_, _], _ => rfl
  have F_all_reached := fun_mk (st := s_all_reached) l2 c2 k2
  have b_all_reached := F_all_reached.binds (ps := ["places", "doors"]) fun _ _ _ _ _ _ us hl => match us, hl with | [_, _], _ => rfl
  have F___init__ := fun_mk (st := s_init) l3 c3 k3
  have b___init__ := F___init__.binds (ps := ["self", "places", "doors"]) fun _ _ _ _ _ _ us hl => match us, hl with | [_, _, _], _ => rfl
  have F__law_standing_by := fun_mk (st := s_law_standing_by) l4 c4 k4
  have b__law_standing_by := F__law_standing_by.binds (ps := ["script", "at", "places", "count"]) fun _ _ _ _ _ _ us hl => match us, hl with | [_, _, _, _], _ => rfl
  have F_is_standing := fun_mk (st := s_is_standing) l5 c5 k5
  have b_is_standing := F_is_standing.binds (ps := ["floor", "chasers", "runner"]) fun _ _ _ _ _ _ us hl => match us, hl with | [_, _, _], _ => rfl
  have F_asked_standing := fun_mk (st := s_asked_standing) l6 c6 k6
  have b_asked_standing := F_asked_standing.binds (ps := ["floor", "chasers", "runner"]) fun _ _ _ _ _ _ us hl => match us, hl with | [_, _, _], _ => rfl
  have F_joins := fun_mk (st := s_joins) l7 c7 k7
  have b_joins := F_joins.binds (ps := ["self", "place", "other"]) fun _ _ _ _ _ _ us hl => match us, hl with | [_, _, _], _ => rfl
  have F_near := fun_mk (st := s_near) l8 c8 k8
  have b_near := F_near.binds (ps := ["self", "place"]) fun _ _ _ _ _ _ us hl => match us, hl with | [_, _], _ => rfl
  have F_around_of := fun_mk (st := s_around_of) l9 c9 k9
  have b_around_of := F_around_of.binds (ps := ["floor"]) fun _ _ _ _ _ _ us hl => match us, hl with | [_], _ => rfl
  have F_goings := fun_mk (st := s_goings) l10 c10 k10
  have b_goings := F_goings.binds (ps := ["lists"]) fun _ _ _ _ _ _ us hl => match us, hl with | [_], _ => rfl
  have F_behind := fun_mk (st := s_behind) l11 c11 k11
  have b_behind := F_behind.binds (ps := ["around", "ranks", "chasers", "runner"]) fun _ _ _ _ _ _ us hl => match us, hl with | [_, _, _, _], _ => rfl
  have F_more_of := fun_mk (st := s_more_of) l12 c12 k12
  have b_more_of := F_more_of.binds (ps := ["around", "ranks", "known"]) fun _ _ _ _ _ _ us hl => match us, hl with | [_, _, _], _ => rfl
  have F_all_ranks := fun_mk (st := s_all_ranks) l13 c13 k13
  have b_all_ranks := F_all_ranks.binds (ps := ["floor", "count"]) fun _ _ _ _ _ _ us hl => match us, hl with | [_, _], _ => rfl
  have F_rank := fun_mk (st := s_rank) l14 c14 k14
  have b_rank := F_rank.binds (ps := ["floor", "chasers", "runner"]) fun _ _ _ _ _ _ us hl => match us, hl with | [_, _, _], _ => rfl
  have F_asked_free := fun_mk (st := s_asked_free) l15 c15 k15
  have b_asked_free := F_asked_free.binds (ps := ["floor", "chasers", "runner"]) fun _ _ _ _ _ _ us hl => match us, hl with | [_, _, _], _ => rfl
  have F_chase_step := fun_mk (st := s_chase_step) l16 c16 k16
  have b_chase_step := F_chase_step.binds (ps := ["floor", "chasers", "runner"]) fun _ _ _ _ _ _ us hl => match us, hl with | [_, _, _], _ => rfl
  have F__law_other := fun_mk (st := s_law_other) l17 c17 k17
  have b__law_other := F__law_other.binds (ps := ["e", "wanted"]) fun _ _ _ _ _ _ us hl => match us, hl with | [_, _], _ => rfl
  have F__law_told := fun_mk (st := s_law_told) l18 c18 k18
  have b__law_told := F__law_told.binds (ps := ["floor", "chasers", "runner"]) fun _ _ _ _ _ _ us hl => match us, hl with | [_, _, _], _ => rfl
  have F__law_numbers_like := fun_mk (st := s_law_numbers_like) l19 c19 k19
  have b__law_numbers_like := F__law_numbers_like.binds (ps := ["found", "due"]) fun _ _ _ _ _ _ us hl => match us, hl with | [_, _], _ => rfl
  have F__law_near := fun_mk (st := s_law_near) l20 c20 k20
  have b__law_near := F__law_near.binds (ps := ["places", "doors", "place"]) fun _ _ _ _ _ _ us hl => match us, hl with | [_, _, _], _ => rfl
  have F__law_goes := fun_mk (st := s_law_goes) l21 c21 k21
  have b__law_goes := F__law_goes.binds (ps := ["places", "doors", "chasers", "goal"]) fun _ _ _ _ _ _ us hl => match us, hl with | [_, _, _, _], _ => rfl
  have F_flight_step := fun_mk (st := s_flight_step) l22 c22 k22
  have b_flight_step := F_flight_step.binds (ps := ["floor", "chasers", "runner"]) fun _ _ _ _ _ _ us hl => match us, hl with | [_, _, _], _ => rfl
  have F__law_whole := fun_mk (st := s_law_whole) l23 c23 k23
  have b__law_whole := F__law_whole.binds (ps := ["found"]) fun _ _ _ _ _ _ us hl => match us, hl with | [_], _ => rfl
  have F_law := fun_mk (st := s_law) l24 c24 k24
  have b_law := F_law.binds (ps := ["script"]) fun _ _ _ _ _ _ us hl => match us, hl with | [_], _ => rfl
  refine ⟨PySem.W.fnOf "law" "law" (defArgs s_law) (defBody s_law) (defScope s_law) .none kV24 dc24 pm24 an24 cd24 ct24, fun s v => .of_eq rfl, fun base _ _ => ?_⟩
  have c__law_cell_at : Cal l.prog w K mg base 1 "_law_cell_at" _ _ := ⟨_, _, (fn_toN (ok_cell (P := l.prog) (w := w) (K := K) (mg := mg) (base := base) F__law_cell_at n_len)), PySem.W.mg_of X G a0, k0, b__law_cell_at⟩
  have c__law_floor_by : Cal l.prog w K mg base 2 "_law_floor_by" _ _ := ⟨_, _, (fn_toN (ok_lfloor (P := l.prog) (w := w) (K := K) (mg := mg) (base := base) F__law_floor_by n_range n_min n_max n_sorted c__law_cell_at)), PySem.W.mg_of X G a1, k1, b__law_floor_by⟩
  have c_all_reached : Cal l.prog w K mg base 1 "all_reached" _ _ := ⟨_, _, (fn_toN (ok_reached (P := l.prog) (w := w) (K := K) (mg := mg) (base := base) F_all_reached n_range n_len)), PySem.W.mg_of X G a2, k2, b_all_reached⟩
  have c_mk : MkF l.prog w K mg base C _ := ⟨_, _, ⟨mk, a3, i3, kc⟩, (id (ok_init (P := l.prog) (w := w) (K := K) (mg := mg) (base := base) F___init__ T E_NoFloor n_range n_len n_list g_MOST c_all_reached)), b___init__⟩
  have c__law_standing_by : Cal l.prog w K mg base 2 "_law_standing_by" _ _ := ⟨_, _, (fn_toN (ok_lstand (P := l.prog) (w := w) (K := K) (mg := mg) (base := base) F__law_standing_by n_range c__law_cell_at)), PySem.W.mg_of X G a4, k4, b__law_standing_by⟩
  have c_is_standing : Cal l.prog w K mg base 1 "is_standing" _ _ := ⟨_, _, (fn_toN (ok_is_standing (P := l.prog) (w := w) (K := K) (mg := mg) (base := base) F_is_standing T n_len)), PySem.W.mg_of X G a5, k5, b_is_standing⟩
  have c_asked_standing : Cal l.prog w K mg base 2 "asked_standing" _ _ := ⟨_, _, (id (ok_asked (P := l.prog) (w := w) (K := K) (mg := mg) (base := base) F_asked_standing E_NoStanding c_is_standing)), PySem.W.mg_of X G a6, k6, b_asked_standing⟩
  have c_joins : Met l.prog w K mg base C 2 "joins" _ _ := ⟨_, _, (fn_toN (ok_joins (P := l.prog) (w := w) (K := K) (mg := mg) (base := base) F_joins T n_min n_max)), ⟨a7, i7, k7⟩, b_joins⟩
  have c_near : Met l.prog w K mg base C 3 "near" _ _ := ⟨_, _, (id (ok_near (P := l.prog) (w := w) (K := K) (mg := mg) (base := base) F_near T E_NoStanding n_range c_joins)), ⟨a8, i8, k8⟩, b_near⟩
  have c_around_of : Cal l.prog w K mg base 4 "around_of" _ _ := ⟨_, _, (fn_toN (ok_around (P := l.prog) (w := w) (K := K) (mg := mg) (base := base) F_around_of T n_range c_near)), PySem.W.mg_of X G a9, k9, b_around_of⟩
  have c_goings : Cal l.prog w K mg base 1 "goings" _ _ := ⟨_, _, (fn_toN (ok_goings (P := l.prog) (w := w) (K := K) (mg := mg) (base := base) F_goings)), PySem.W.mg_of X G a10, k10, b_goings⟩
  have c_behind : Cal l.prog w K mg base 1 "behind" _ _ := ⟨_, _, (fn_toN (ok_behind (P := l.prog) (w := w) (K := K) (mg := mg) (base := base) F_behind n_max)), PySem.W.mg_of X G a11, k11, b_behind⟩
  have c_more_of : Cal l.prog w K mg base 2 "more_of" _ _ := ⟨_, _, (fn_toN (ok_more (P := l.prog) (w := w) (K := K) (mg := mg) (base := base) F_more_of n_range n_len c_behind)), PySem.W.mg_of X G a12, k12, b_more_of⟩
  have c_all_ranks : Cal l.prog w K mg base 5 "all_ranks" _ _ := ⟨_, _, (fn_toN (ok_ranks (P := l.prog) (w := w) (K := K) (mg := mg) (base := base) F_all_ranks T n_range n_len n_list c_around_of c_goings c_more_of)), PySem.W.mg_of X G a13, k13, b_all_ranks⟩
  have c_rank : Cal l.prog w K mg base 6 "rank" _ _ := ⟨_, _, (id (ok_rank (P := l.prog) (w := w) (K := K) (mg := mg) (base := base) F_rank n_len n_tuple c_asked_standing c_all_ranks)), PySem.W.mg_of X G a14, k14, b_rank⟩
  have c_asked_free : Cal l.prog w K mg base 3 "asked_free" _ _ := ⟨_, _, (id (ok_free (P := l.prog) (w := w) (K := K) (mg := mg) (base := base) F_asked_free E_Caught c_asked_standing)), PySem.W.mg_of X G a15, k15, b_asked_free⟩
  have c_chase_step : Cal l.prog w K mg base 6 "chase_step" _ _ := ⟨_, _, (id (ok_chase (P := l.prog) (w := w) (K := K) (mg := mg) (base := base) F_chase_step E_Free n_len n_tuple n_list c_asked_free c_all_ranks c_around_of c_goings c_behind)), PySem.W.mg_of X G a16, k16, b_chase_step⟩
  have c__law_other : CalE l.prog w K mg base 1 "_law_other" _ _ := ⟨_, _, ok_other (P := l.prog) (w := w) (K := K) (mg := mg) (base := base) F__law_other n_isinstance n_range n_ValueError, PySem.W.mg_of X G a17, k17, b__law_other⟩
  have c__law_told : Cal l.prog w K mg base 7 "_law_told" _ _ := ⟨_, _, (fn_toN (ok_told (P := l.prog) (w := w) (K := K) (mg := mg) (base := base) F__law_told c_chase_step c__law_other R_Caught R_Free)), PySem.W.mg_of X G a18, k18, b__law_told⟩
  have c__law_numbers_like : Cal l.prog w K mg base 1 "_law_numbers_like" _ _ := ⟨_, _, (fn_toN (ok_like (P := l.prog) (w := w) (K := K) (mg := mg) (base := base) F__law_numbers_like n_len n_isinstance n_list n_int n_bool n_zip)), PySem.W.mg_of X G a19, k19, b__law_numbers_like⟩
  have c__law_near : Cal l.prog w K mg base 3 "_law_near" _ _ := ⟨_, _, (fn_toN (ok_lnear (P := l.prog) (w := w) (K := K) (mg := mg) (base := base) F__law_near n_range n_min n_max)), PySem.W.mg_of X G a20, k20, b__law_near⟩
  have c__law_goes : Cal l.prog w K mg base 4 "_law_goes" _ _ := ⟨_, _, (fn_toN (ok_goes (P := l.prog) (w := w) (K := K) (mg := mg) (base := base) F__law_goes n_len n_range c__law_numbers_like c__law_near)), PySem.W.mg_of X G a21, k21, b__law_goes⟩
  have c_flight_step : Cal l.prog w K mg base 6 "flight_step" _ _ := ⟨_, _, (id (ok_flight (P := l.prog) (w := w) (K := K) (mg := mg) (base := base) F_flight_step T n_len n_tuple c_asked_free c_all_ranks c_near)), PySem.W.mg_of X G a22, k22, b_flight_step⟩
  have c__law_whole : Cal l.prog w K mg base 1 "_law_whole" _ _ := ⟨_, _, (fn_toN (ok_lwhole (P := l.prog) (w := w) (K := K) (mg := mg) (base := base) F__law_whole n_isinstance n_int n_bool)), PySem.W.mg_of X G a23, k23, b__law_whole⟩
  exact ok_law (P := l.prog) (w := w) (K := K) (mg := mg) (base := base) F_law T n_int n_list n_range n_len c__law_cell_at c__law_floor_by c_mk c__law_standing_by c_rank c__law_told c__law_goes c__law_near c_flight_step c__law_whole
theorem walk {l : PySem.W.OpenLaw} {q : Program} {loose : List Str} {XP : (Str → Option Value) → Heap → Prop} {YP : World → Heap → Prop} {d : DefRec} {K : Params → PySem.W.Frag} (hn : l.most = some 63) (hdf : d.params.defaults = []) (hY : ∀ (w : World) (h : Heap), YP w h → (K w.params).In h)
    (F : ∀ (w : World) (mg : Str → Option Value) (fa : Addr) (h : Heap), (K w.params).In h → h.Ns mainGlobals mg → mg d.name = some (.ref fa) → ∃ fd : FuncData, (∀ (s : Shared) (u : Value), BindsTo s fd ⟨[u], []⟩ [("script", u)]) ∧ ∀ base : Heap, (K w.params).In base → base.Ns mainGlobals mg → FnOk l.prog w (K w.params) mg base CX0 8 fa fd ["script"] (spLaw (K w.params))) : PySem.W.WalkO q loose XP YP l.row.toRowW d [] (fun f vs => PySem.call f vs) :=
  walk_of (n := 63) (k := 8) (x := "script") (CX := fun _ => CX0) (sp := fun w => spLaw (K w.params)) hn (by decide) hdf ⟨rfl, by decide, by decide⟩ hY F (fun _ _ a ns hl _ hS => ⟨a, ns, rfl, hS, hl, fun _ => rfl⟩) fun _ _ _ _ _ z => z
end CF
open PySem PySem.W PyProof.Rows
set_option maxRecDepth 100000 in
set_option maxHeartbeats 0 in
theorem PySem.Challenge.cw_chasefloor_k05_whole_chased_by_plan_holds : PySem.Challenge.rw_chasefloor_k05_whole_chased_by_plan.Holds := by
  w_on; o_law; k_head; (case hw => w_witness2)
  k_fill
  refine CF.walk (l := PySem.Challenge.rw_chasefloor_k05_whole_chased_by_plan) rfl rfl (fun w h Y => PySem.W.kIn_of Y) ?F
  case F =>
    intro w mg fa h KX G hmg
    refine' CF.all_mk KX G hmg ?aC ?a0 ?l0 ?c0 ?k0 ?a1 ?l1 ?c1 ?k1 ?a2 ?l2 ?c2 ?k2 ?a3 ?i3 ?l3 ?c3 ?k3 ?a4 ?l4 ?c4 ?k4 ?a5 ?l5 ?c5 ?k5 ?a6 ?l6 ?c6 ?k6 ?a7 ?i7 ?l7 ?c7 ?k7 ?a8 ?i8 ?l8 ?c8 ?k8 ?a9 ?l9 ?c9 ?k9 ?a10 ?l10 ?c10 ?k10 ?a11 ?l11 ?c11 ?k11 ?a12 ?l12 ?c12 ?k12 ?a13 ?l13 ?c13 ?k13 ?a14 ?l14 ?c14 ?k14 ?a15 ?l15 ?c15 ?k15 ?a16 ?l16 ?c16 ?k16 ?a17 ?l17 ?c17 ?k17 ?a18 ?l18 ?c18 ?k18 ?a19 ?l19 ?c19 ?k19 ?a20 ?l20 ?c20 ?k20 ?a21 ?l21 ?c21 ?k21 ?a22 ?l22 ?c22 ?k22 ?a23 ?l23 ?c23 ?k23 ?a24 ?l24 ?c24 ?k24 ?pg ?hd ?po ?sa ?mk ?kc ?nP ?nD ?eaNoFloor ?enNoFloor ?ekNoFloor ?ebNoFloor ?etNoFloor ?eaNoStanding ?enNoStanding ?ekNoStanding ?ebNoStanding ?etNoStanding ?eaFree ?enFree ?ekFree ?ebFree ?etFree ?eaCaught ?enCaught ?ekCaught ?ebCaught ?etCaught ?eaNoNumber ?eaChaseError ?rn ?rt ?rgCaught ?rkCaught ?rhCaught ?raCaught ?rmCaught ?qCaught0 ?qCaught1 ?qCaught2 ?qCaught3 ?qCaught4 ?qvCaught ?qeCaught ?rgFree ?rkFree ?rhFree ?raFree ?rmFree ?qFree0 ?qFree1 ?qFree2 ?qFree3 ?qFree4 ?qvFree ?qeFree ?z_int ?z_list ?z_range ?z_len ?z_min ?z_max ?z_sorted ?z_tuple ?z_isinstance ?z_ValueError ?z_bool ?z_zip ?y_MOST
    (case aC => k_is); (case a0 => k_is); (case l0 => k_is); (case c0 => k_is); (case k0 => k_is); (case a1 => k_is)
    (case l1 => k_is); (case c1 => k_is); (case k1 => k_is); (case a2 => k_is); (case l2 => k_is); (case c2 => k_is)
    (case k2 => k_is); (case a3 => k_is); (case i3 => k_is); (case l3 => k_is); (case c3 => k_is); (case k3 => k_is)
    (case a4 => k_is); (case l4 => k_is); (case c4 => k_is); (case k4 => k_is); (case a5 => k_is); (case l5 => k_is)
    (case c5 => k_is); (case k5 => k_is); (case a6 => k_is); (case l6 => k_is); (case c6 => k_is); (case k6 => k_is)
    (case a7 => k_is); (case i7 => k_is); (case l7 => k_is); (case c7 => k_is); (case k7 => k_is); (case a8 => k_is)
    (case i8 => k_is); (case l8 => k_is); (case c8 => k_is); (case k8 => k_is); (case a9 => k_is); (case l9 => k_is)
    (case c9 => k_is); (case k9 => k_is); (case a10 => k_is); (case l10 => k_is); (case c10 => k_is); (case k10 => k_is)
    (case a11 => k_is); (case l11 => k_is); (case c11 => k_is); (case k11 => k_is); (case a12 => k_is); (case l12 => k_is)
    (case c12 => k_is); (case k12 => k_is); (case a13 => k_is); (case l13 => k_is); (case c13 => k_is); (case k13 => k_is)
    (case a14 => k_is); (case l14 => k_is); (case c14 => k_is); (case k14 => k_is); (case a15 => k_is); (case l15 => k_is)
    (case c15 => k_is); (case k15 => k_is); (case a16 => k_is); (case l16 => k_is); (case c16 => k_is); (case k16 => k_is)
    (case a17 => k_is); (case l17 => k_is); (case c17 => k_is); (case k17 => k_is); (case a18 => k_is); (case l18 => k_is)
    (case c18 => k_is); (case k18 => k_is); (case a19 => k_is); (case l19 => k_is); (case c19 => k_is); (case k19 => k_is)
    (case a20 => k_is); (case l20 => k_is); (case c20 => k_is); (case k20 => k_is); (case a21 => k_is); (case l21 => k_is)
    (case c21 => k_is); (case k21 => k_is); (case a22 => k_is); (case l22 => k_is); (case c22 => k_is); (case k22 => k_is)
    (case a23 => k_is); (case l23 => k_is); (case c23 => k_is); (case k23 => k_is); (case a24 => k_is); (case l24 => k_is)
    (case c24 => k_is); (case k24 => k_is); (case pg => k_is); (case hd => k_is); (case po => k_is); (case sa => k_is)
    (case mk => k_is); (case kc => k_is); (case nP => k_is); (case nD => k_is); (case eaNoFloor => k_is); (case enNoFloor => k_exc)
    (case ekNoFloor => k_is); (case ebNoFloor => k_is); (case etNoFloor => k_is); (case eaNoStanding => k_is); (case enNoStanding => k_exc); (case ekNoStanding => k_is)
    (case ebNoStanding => k_is); (case etNoStanding => k_is); (case eaFree => k_is); (case enFree => k_exc); (case ekFree => k_is); (case ebFree => k_is)
    (case etFree => k_is); (case eaCaught => k_is); (case enCaught => k_exc); (case ekCaught => k_is); (case ebCaught => k_is); (case etCaught => k_is)
    (case eaNoNumber => k_is); (case eaChaseError => k_is); (case rn => first | k_is | rfl | decide +kernel); (case rt => first | k_is | rfl | decide +kernel); (case rgCaught => first | k_is | rfl | decide +kernel); (case rkCaught => first | k_is | rfl | decide +kernel)
    (case rhCaught => first | k_is | rfl | decide +kernel); (case raCaught => first | k_is | rfl | decide +kernel); (case rmCaught => first | k_is | rfl | decide +kernel); (case qCaught0 => first | k_is | rfl | decide +kernel); (case qCaught1 => first | k_is | rfl | decide +kernel); (case qCaught2 => first | k_is | rfl | decide +kernel)
    (case qCaught3 => first | k_is | rfl | decide +kernel); (case qCaught4 => first | k_is | rfl | decide +kernel); (case qvCaught => first | k_is | rfl | decide +kernel); (case qeCaught => first | k_is | rfl | decide +kernel); (case rgFree => first | k_is | rfl | decide +kernel); (case rkFree => first | k_is | rfl | decide +kernel)
    (case rhFree => first | k_is | rfl | decide +kernel); (case raFree => first | k_is | rfl | decide +kernel); (case rmFree => first | k_is | rfl | decide +kernel); (case qFree0 => first | k_is | rfl | decide +kernel); (case qFree1 => first | k_is | rfl | decide +kernel); (case qFree2 => first | k_is | rfl | decide +kernel)
    (case qFree3 => first | k_is | rfl | decide +kernel); (case qFree4 => first | k_is | rfl | decide +kernel); (case qvFree => first | k_is | rfl | decide +kernel); (case qeFree => first | k_is | rfl | decide +kernel); (case z_int => k_is); (case z_list => k_is)
    (case z_range => k_is); (case z_len => k_is); (case z_min => k_is); (case z_max => k_is); (case z_sorted => k_is); (case z_tuple => k_is)
    (case z_isinstance => k_is); (case z_ValueError => k_is); (case z_bool => k_is); (case z_zip => k_is); (case y_MOST => k_is)
