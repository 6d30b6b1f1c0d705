import PyProof.Rows.All
import HandS.ForMost
import HandS.Exc
import HandS.ExcOwn
import HandS.WordsExc
import HandS.TryOnly
import HandS.Style
import HandS.TupAny
import HandS.TupMul
import HandS.IsInst
import HandS.Conv
import HandS.Wide
import HandS.Zip
import HandS.Deep
import HandS.SetFor
import HandS.Strs
import HandS.SortInts
import KE.KTupSum
import HandS.Defaults
import HandS.HeadHook1
import HandS.HeadHook2
import HandS.ExcIs
import HandS.Star
import HandS.Dict
import HandS.Iter
import KE.KDictDisplayH
import HandS.Sort
import HandS.SortOrd
import HandS.ExcValue
import HandS.Head0
import HandS.Head1
import HandS.Head2
import HandS.HeadEnd
import PySem.Challenge.RW_tyreplaces_k70_whole_naive
set_option Elab.async false
set_option linter.all false
set_option maxRecDepth 100000
set_option maxHeartbeats 4000000
/-! The data layer: what expressions and statements do, told over data trees alone. -/
namespace DL
open PySem PySem.Spec L2

abbrev D := PyData
/-- what is known of a slot: nothing, a datum that no one changes any more, a list of this def's own, a dict of this def's own (its keys tuples of ints), a value as it is -/
inductive DV where
  | bot | dat (d : D) | own (ds : List D) | dct (kvs : List (List Int × D)) | raw (v : V)
/-- what may still be changed -/
def DV.mut : DV → Bool
  | .own _ => true
  | .dct _ => true
  | _ => false
abbrev DE := List DV

section
variable {K : PySem.W.Frag}
theorem Rd.mono {H H' : Hp} (s : Same H H') {a : Addr} {u : HO} (h : Rd H a u) : Rd H' a u := by
  rcases h with h | ⟨o, h⟩
  · exact .inl (s _ _ h)
  · exact .inr ⟨o, s _ _ h⟩
theorem SqT.mono {H H' : Hp} (s : Same H H') {a : Addr} {xs : List V} (h : SqT K H a xs) : SqT K H' a xs := by
  rcases h with h | h
  · exact .inl (Rd.mono s h)
  · exact .inr h
/-- a tuple that is known to be plain -/
def TupS (H : Hp) (a : Addr) (xs : List V) : Prop := ∃ o : Obj, H a = some (.frz o (.tup xs)) ∧ o.dict = none
theorem TupS.t {H : Hp} {a : Addr} {xs : List V} (h : TupS H a xs) : SqT K H a xs := by
  obtain ⟨o, h, _⟩ := h
  exact .inl (.inr ⟨o, h⟩)
theorem TupS.mono {H H' : Hp} (s : Same H H') {a : Addr} {xs : List V} (h : TupS H a xs) : TupS H' a xs := by
  obtain ⟨o, h, q⟩ := h
  exact ⟨o, s _ _ h, q⟩
mutual
/-- the value v stands for the datum d -/
inductive Dp (K : PySem.W.Frag) (H : Hp) : V → D → Prop
  | non : Dp K H .non .none
  | bl (b : Bool) : Dp K H (.bl b) (.bool b)
  | int (i : Int) : Dp K H (.int i) (.int i)
  | str (x : Str) : Dp K H (.str x) (.str x)
  | lst {a : Addr} {xs : List V} {ds : List D} : SqL K H a xs → DpAll K H xs ds → Dp K H (.ref a) (.list ds)
  | tup {a : Addr} {xs : List V} {ds : List D} : TupS H a xs → DpAll K H xs ds → Dp K H (.ref a) (.tuple ds)
inductive DpAll (K : PySem.W.Frag) (H : Hp) : List V → List D → Prop
  | nil : DpAll K H [] []
  | cons {v : V} {vs : List V} {d : D} {ds : List D} : Dp K H v d → DpAll K H vs ds → DpAll K H (v :: vs) (d :: ds)
end
mutual
theorem Dp.up {H : Hp} : ∀ {v : V} {d : D}, Dp K H v d → L2.Dp K H v d
  | _, _, .non => .non
  | _, _, .bl b => .bl b
  | _, _, .int i => .int i
  | _, _, .str x => .str x
  | _, _, .lst h t => .lst h (DpAll.up t)
  | _, _, .tup h t => .tup h.t (DpAll.up t)
theorem DpAll.up {H : Hp} : ∀ {vs : List V} {ds : List D}, DpAll K H vs ds → L2.DpAll K H vs ds
  | _, _, .nil => .nil
  | _, _, .cons h t => .cons (Dp.up h) (DpAll.up t)
end
mutual
theorem Dp.mono {H H' : Hp} (s : Same H H') : ∀ {v : V} {d : D}, Dp K H v d → Dp K H' v d
  | _, _, .non => .non
  | _, _, .bl b => .bl b
  | _, _, .int i => .int i
  | _, _, .str x => .str x
  | _, _, .lst h t => .lst (s.seq h) (DpAll.mono s t)
  | _, _, .tup h t => .tup (TupS.mono s h) (DpAll.mono s t)
theorem DpAll.mono {H H' : Hp} (s : Same H H') : ∀ {vs : List V} {ds : List D}, DpAll K H vs ds → DpAll K H' vs ds
  | _, _, .nil => .nil
  | _, _, .cons h t => .cons (Dp.mono s h) (DpAll.mono s t)
end
theorem DpAll.length {H : Hp} : ∀ {vs : List V} {ds : List D}, DpAll K H vs ds → vs.length = ds.length
  | _, _, .nil => rfl
  | _, _, .cons _ t => by simp [DpAll.length t]
theorem DpAll.get {H : Hp} : ∀ {vs : List V} {ds : List D} {i : Nat} {v : V}, DpAll K H vs ds → vs[i]? = some v → ∃ d, ds[i]? = some d ∧ Dp K H v d
  | _, _, _, _, .nil, e => by simp at e
  | _, _, 0, _, .cons h _, e => by simp at e; subst e; exact ⟨_, rfl, h⟩
  | _, _, i + 1, _, .cons _ t, e => by
    obtain ⟨d, h1, h2⟩ := DpAll.get (i := i) t (by simpa using e)
    exact ⟨d, by simpa using h1, h2⟩
theorem DpAll.get' {H : Hp} : ∀ {vs : List V} {ds : List D} {i : Nat} {d : D}, DpAll K H vs ds → ds[i]? = some d → ∃ v, vs[i]? = some v ∧ Dp K H v d
  | _, _, _, _, .nil, e => by simp at e
  | _, _, 0, _, .cons h _, e => by simp at e; subst e; exact ⟨_, rfl, h⟩
  | _, _, i + 1, _, .cons _ t, e => by
    obtain ⟨v, h1, h2⟩ := DpAll.get' (i := i) t (by simpa using e)
    exact ⟨v, by simpa using h1, h2⟩
theorem DpAll.append {H : Hp} : ∀ {vs ws : List V} {ds es : List D}, DpAll K H vs ds → DpAll K H ws es → DpAll K H (vs ++ ws) (ds ++ es)
  | _, _, _, _, .nil, s => s
  | _, _, _, _, .cons h t, s => .cons h (DpAll.append t s)
theorem DpAll.take {H : Hp} : ∀ {vs : List V} {ds : List D} (n : Nat), DpAll K H vs ds → DpAll K H (vs.take n) (ds.take n)
  | _, _, 0, _ => .nil
  | _, _, _ + 1, .nil => .nil
  | _, _, n + 1, .cons h t => .cons h (DpAll.take n t)
theorem DpAll.drop {H : Hp} : ∀ {vs : List V} {ds : List D} (n : Nat), DpAll K H vs ds → DpAll K H (vs.drop n) (ds.drop n)
  | _, _, 0, t => t
  | _, _, _ + 1, .nil => .nil
  | _, _, n + 1, .cons _ t => DpAll.drop n t
theorem DpAll.set {H : Hp} {v : V} {d : D} (r : Dp K H v d) : ∀ {vs : List V} {ds : List D} (i : Nat), DpAll K H vs ds → DpAll K H (vs.set i v) (ds.set i d)
  | _, _, _, .nil => .nil
  | _, _, 0, .cons _ t => .cons r t
  | _, _, i + 1, .cons q t => .cons q (DpAll.set r i t)
theorem DpAll.eraseIdx {H : Hp} : ∀ {vs : List V} {ds : List D} (i : Nat), DpAll K H vs ds → DpAll K H (vs.eraseIdx i) (ds.eraseIdx i)
  | _, _, _, .nil => .nil
  | _, _, 0, .cons _ t => t
  | _, _, i + 1, .cons q t => .cons q (DpAll.eraseIdx i t)
theorem DpAll.replicate {H : Hp} {vs : List V} {ds : List D} (h : DpAll K H vs ds) : ∀ k : Nat, DpAll K H (List.replicate k vs).flatten (List.replicate k ds).flatten
  | 0 => .nil
  | k + 1 => by
    rw [List.replicate_succ, List.replicate_succ, List.flatten_cons, List.flatten_cons]
    exact DpAll.append h (DpAll.replicate h k)
theorem DpAll.ints {H : Hp} : ∀ {vs : List V} {ns : List Int}, DpAll K H vs (ns.map PyData.int) → vs = ns.map V.int
  | _, [], .nil => rfl
  | _, n :: ns, .cons h t => by cases h; rw [List.map_cons, DpAll.ints t]
theorem DpAll.ofInts {H : Hp} : ∀ (ns : List Int), DpAll K H (ns.map V.int) (ns.map PyData.int)
  | [] => .nil
  | n :: ns => .cons (.int n) (DpAll.ofInts ns)
theorem DpAll.bools {H : Hp} : ∀ {vs : List V} {ns : List Bool}, DpAll K H vs (ns.map PyData.bool) → vs = ns.map V.bl
  | _, [], .nil => rfl
  | _, n :: ns, .cons h t => by cases h; rw [List.map_cons, DpAll.bools t]
end

/-! ### dicts whose keys are tuples of ints -/
def hashT (ks : List Int) : Int := reduceHash (Builtin.Tuple.tupleHashOf (ks.map hashInt))
def entT (x : List Int × Addr × Value) : DictEntry := ⟨hashT x.1, .ref x.2.1, x.2.2⟩
/-- a dict's entries (keys with the tuples that hold them, values) and its count of changes -/
abbrev DX := List (List Int × Addr × Value) × Nat
/-- the dict at a as it stands -/
def dctAt (a : Addr) (x : DX) (h : Heap) : Prop :=
  x.1.length ≤ sizeLine ∧ (a == sysModules) = false ∧ ∃ o es, h.get? a = some o ∧ o.ExactDict ∧ o.data = .dict es x.2 ∧ es.toList = x.1.map entT ∧ (x.1.map (·.1)).Nodup
def dctO (a : Addr) (x : DX) : HO := .ext (dctAt a x)
/-- a key's tuple -/
def KeyT (F : Hp) (q : Addr) (k : List Int) : Prop := TupS F q (k.map V.int)
/-- keys and values stand for these data -/
inductive DctAll (K : PySem.W.Frag) (F : Hp) : List (List Int × D) → List (List Int × Addr × Value) → Prop
  | nil : DctAll K F [] []
  | cons {k : List Int} {d : D} {q : Addr} {v : V} {u : Value} {kvs : List (List Int × D)} {xs : List (List Int × Addr × Value)} : KeyT F q k → RelV v u → Dp K F v d → DctAll K F kvs xs → DctAll K F ((k, d) :: kvs) ((k, q, u) :: xs)
theorem DctAll.mono {K : PySem.W.Frag} {H H' : Hp} (s : Same H H') {kvs : List (List Int × D)} {xs : List (List Int × Addr × Value)} (h : DctAll K H kvs xs) : DctAll K H' kvs xs := by
  induction h with
  | nil => exact .nil
  | cons a b c _ ih => exact .cons (TupS.mono s a) b (Dp.mono s c) ih

/-! ### the heap's growth -/
/-- F: what is fixed for good; H: all that is tracked -/
structure Ext (F H F' H' : Hp) : Prop where
  h : Same H H'
  f : Same F F'
  i : Same F' H'
  n : ∀ b, F b = none → H b ≠ none → F' b = none
theorem Ext.refl {F H : Hp} (s : Same F H) : Ext F H F H := ⟨Same.refl _, Same.refl _, s, fun _ h _ => h⟩
theorem Same.ne {H H' : Hp} (s : Same H H') {b : Addr} (h : H b ≠ none) : H' b ≠ none := by
  cases q : H b with
  | none => exact absurd q h
  | some o => rw [s _ _ q]; exact fun z => nomatch z
theorem Ext.trans {F H F1 H1 F2 H2 : Hp} (a : Ext F H F1 H1) (b : Ext F1 H1 F2 H2) : Ext F H F2 H2 :=
  ⟨a.h.trans b.h, a.f.trans b.f, b.i, fun c h g => b.n c (a.n c h g) (Same.ne a.h g)⟩
theorem same_upd {H : Hp} {p : Addr} {o : HO} (h : H p = none) : Same H (upd H p o) := fun b x e => by
  rw [upd_ne (ne_of_none e h)]
  exact e
theorem Same.upd2 {F H : Hp} {p : Addr} {o : HO} (s : Same F H) : Same (upd F p o) (upd H p o) := fun b x e => by
  by_cases hb : b = p
  · subst hb; rw [upd_same] at e ⊢; exact e
  · rw [upd_ne hb] at e ⊢; exact s _ _ e
/-- a new object, fixed at once -/
theorem Ext.new {F H : Hp} (s : Same F H) {p : Addr} {o : HO} (h : H p = none) : Ext F H (upd F p o) (upd H p o) := by
  refine ⟨same_upd h, same_upd (s.free h), Same.upd2 s, fun b hb g => ?_⟩
  rw [upd_ne (fun z => by subst z; exact g h)]
  exact hb
/-- a new object, not fixed -/
theorem Ext.loose {F H : Hp} (s : Same F H) {p : Addr} {o : HO} (h : H p = none) : Ext F H F (upd H p o) :=
  ⟨same_upd h, Same.refl _, s.trans (same_upd h), fun _ hb _ => hb⟩

section
variable {K : PySem.W.Frag} {F0 H0 F H F' H' : Hp}
/-- a slot's value is as told -/
def RV (K : PySem.W.Frag) (H0 F H : Hp) : DV → Option V → Prop
  | .bot, _ => True
  | .dat d, o => ∃ v, o = some v ∧ Dp K F v d
  | .own ds, o => ∃ a vs, o = some (V.ref a) ∧ H a = some (.lst vs) ∧ DpAll K F vs ds ∧ F a = none ∧ H0 a = none
  | .dct kvs, o => ∃ a xs, o = some (V.ref a) ∧ H a = some (dctO a xs) ∧ DctAll K F kvs xs.1 ∧ F a = none ∧ H0 a = none
  | .raw v, o => o = some v
structure R (K : PySem.W.Frag) (F0 H0 F : Hp) (ρ : DE) (σ : L2.St) (H : Hp) : Prop where
  len : ρ.length = σ.length
  s0 : Same H0 H
  f : Same F H
  f0 : Same F0 F
  nw : ∀ b, F0 b = none → H0 b ≠ none → F b = none
  vs : ∀ (i : Nat) x o, ρ[i]? = some x → σ[i]? = some o → RV K H0 F H x o
  ap : ∀ (i j : Nat) a x y, i ≠ j → ρ[i]? = some x → x.mut = true → ρ[j]? = some y → y.mut = true → σ[i]? = some (some (V.ref a)) → σ[j]? ≠ some (some (V.ref a))
theorem RV.ext {x : DV} {o : Option V} (h : RV K H0 F H x o) (e : Ext F H F' H') : RV K H0 F' H' x o := by
  cases x with
  | bot => trivial
  | dat d => obtain ⟨v, q, r⟩ := h; exact ⟨v, q, Dp.mono e.f r⟩
  | own ds =>
    obtain ⟨a, vs, q, ha, r, n, z⟩ := h
    exact ⟨a, vs, q, e.h _ _ ha, DpAll.mono e.f r, e.n _ n (by rw [ha]; exact fun z => nomatch z), z⟩
  | dct kvs =>
    obtain ⟨a, xs, q, ha, r, n, z⟩ := h
    exact ⟨a, xs, q, e.h _ _ ha, DctAll.mono e.f r, e.n _ n (by rw [ha]; exact fun z => nomatch z), z⟩
  | raw v => exact h
theorem R.ext {ρ : DE} {σ : L2.St} (r : R K F0 H0 F ρ σ H) (e : Ext F H F' H') : R K F0 H0 F' ρ σ H' :=
  ⟨r.len, r.s0.trans e.h, e.i, r.f0.trans e.f, fun b hb g => e.n b (r.nw b hb g) (Same.ne r.s0 g), fun i x o h1 h2 => (r.vs i x o h1 h2).ext e, r.ap⟩
/-- another entry, later in the growth -/
theorem R.at {ρ : DE} {σ : L2.St} (r : R K F0 H0 F ρ σ H) : R K F H0 F ρ σ H :=
  ⟨r.len, r.s0, r.f, Same.refl _, fun _ hb _ => hb, r.vs, r.ap⟩
theorem R.back {F1 : Hp} {ρ1 ρ : DE} {σ1 σ : L2.St} {H1 : Hp} (r1 : R K F0 H0 F1 ρ1 σ1 H1) (r : R K F1 H0 F ρ σ H) : R K F0 H0 F ρ σ H :=
  ⟨r.len, r.s0, r.f, r1.f0.trans r.f0, fun b hb g => r.nw b (r1.nw b hb g) g, r.vs, r.ap⟩
theorem getSet {α : Type} {l : List α} {i j : Nat} {x y : α} (h : (l.set i x)[j]? = some y) : (i = j ∧ y = x) ∨ (i ≠ j ∧ l[j]? = some y) := by
  by_cases e : i = j
  · subst e
    by_cases hl : i < l.length
    · rw [List.getElem?_set_self hl] at h; exact .inl ⟨rfl, (Option.some.inj h).symm⟩
    · rw [List.getElem?_eq_none (by simpa using hl)] at h; cases h
  · rw [List.getElem?_set_ne e] at h; exact .inr ⟨e, h⟩
/-- a slot takes something that no one changes -/
theorem R.setP {ρ : DE} {σ : L2.St} (r : R K F0 H0 F ρ σ H) {i : Nat} {o : Option V} {x : DV} (hm : x.mut = false) (h : RV K H0 F H x o) : R K F0 H0 F (ρ.set i x) (σ.set i o) H := by
  refine ⟨by simp [r.len], r.s0, r.f, r.f0, r.nw, fun j y o' h1 h2 => ?_, fun j k a y z hn h1 m1 h2 m2 h3 h4 => ?_⟩
  · rcases getSet h1 with ⟨e1, rfl⟩ | ⟨e1, g1⟩
    · rcases getSet h2 with ⟨_, rfl⟩ | ⟨e2, _⟩
      · exact h
      · exact absurd e1 e2
    · rcases getSet h2 with ⟨e2, _⟩ | ⟨_, g2⟩
      · exact absurd e2 e1
      · exact r.vs j y o' g1 g2
  · rcases getSet h1 with ⟨_, rfl⟩ | ⟨e1, g1⟩
    · rw [hm] at m1; cases m1
    rcases getSet h2 with ⟨_, rfl⟩ | ⟨e2, g2⟩
    · rw [hm] at m2; cases m2
    rcases getSet h3 with ⟨z, _⟩ | ⟨_, g3⟩
    · exact e1 z
    rcases getSet h4 with ⟨z, _⟩ | ⟨_, g4⟩
    · exact e2 z
    exact r.ap j k a y z hn g1 m1 g2 m2 g3 g4
/-- a slot takes a fixed datum -/
theorem R.setD {ρ : DE} {σ : L2.St} (r : R K F0 H0 F ρ σ H) {i : Nat} {v : V} {d : D} (h : Dp K F v d) : R K F0 H0 F (ρ.set i (.dat d)) (σ.set i (some v)) H := r.setP rfl ⟨v, rfl, h⟩
/-- a slot takes a value as it is -/
theorem R.setR {ρ : DE} {σ : L2.St} (r : R K F0 H0 F ρ σ H) {i : Nat} {v : V} : R K F0 H0 F (ρ.set i (.raw v)) (σ.set i (some v)) H := r.setP rfl rfl
/-- forget a slot -/
theorem R.wipe {ρ : DE} {σ : L2.St} (r : R K F0 H0 F ρ σ H) {i : Nat} {o : Option V} : R K F0 H0 F (ρ.set i .bot) (σ.set i o) H := r.setP rfl trivial
/-- a slot takes something new that may be changed -/
theorem R.setM0 {ρ : DE} {σ : L2.St} (r : R K F0 H0 F ρ σ H) {i : Nat} {a : Addr} {x : DV} (h : RV K H0 F H x (some (V.ref a)))
    (fr : ∀ (j : Nat) y, ρ[j]? = some y → y.mut = true → σ[j]? ≠ some (some (V.ref a))) : R K F0 H0 F (ρ.set i x) (σ.set i (some (V.ref a))) H := by
  refine ⟨by simp [r.len], r.s0, r.f, r.f0, r.nw, fun j y o h1 h2 => ?_, fun j k b y z hn h1 m1 h2 m2 h3 h4 => ?_⟩
  · rcases getSet h1 with ⟨e1, rfl⟩ | ⟨e1, g1⟩
    · rcases getSet h2 with ⟨_, rfl⟩ | ⟨e2, _⟩
      · exact h
      · exact absurd e1 e2
    · rcases getSet h2 with ⟨e2, _⟩ | ⟨_, g2⟩
      · exact absurd e2 e1
      · exact r.vs j y o g1 g2
  · rcases getSet h1 with ⟨e1, _⟩ | ⟨e1, g1⟩
    · rcases getSet h2 with ⟨e2, _⟩ | ⟨e2, g2⟩
      · exact hn (e1.symm.trans e2)
      rcases getSet h4 with ⟨z, _⟩ | ⟨_, g4⟩
      · exact e2 z
      rcases getSet h3 with ⟨_, z⟩ | ⟨z, _⟩
      · cases z; exact fr k z g2 m2 g4
      · exact z e1
    · rcases getSet h3 with ⟨z, _⟩ | ⟨_, g3⟩
      · exact e1 z
      rcases getSet h2 with ⟨e2, _⟩ | ⟨e2, g2⟩
      · rcases getSet h4 with ⟨_, z⟩ | ⟨z, _⟩
        · cases z; exact fr j y g1 m1 g3
        · exact z e2
      · rcases getSet h4 with ⟨z, _⟩ | ⟨_, g4⟩
        · exact e2 z
        exact r.ap j k b y z hn g1 m1 g2 m2 g3 g4
/-- a slot takes a new list of one's own -/
theorem R.setO {ρ : DE} {σ : L2.St} (r : R K F0 H0 F ρ σ H) {i : Nat} {a : Addr} {vs : List V} {ds : List D} (h : H a = some (.lst vs)) (q : DpAll K F vs ds) (n : F a = none) (z : H0 a = none)
    (fr : ∀ (j : Nat) y, ρ[j]? = some y → y.mut = true → σ[j]? ≠ some (some (V.ref a))) : R K F0 H0 F (ρ.set i (.own ds)) (σ.set i (some (V.ref a))) H := r.setM0 ⟨a, vs, rfl, h, q, n, z⟩ fr
theorem R.get {ρ : DE} {σ : L2.St} (r : R K F0 H0 F ρ σ H) {i : Nat} {x : DV} (h : ρ[i]? = some x) : ∃ o, σ[i]? = some o ∧ RV K H0 F H x o := by
  have hl : i < σ.length := by rw [← r.len]; exact (List.getElem?_eq_some_iff.mp h).1
  exact ⟨σ[i], List.getElem?_eq_getElem hl, r.vs i x _ h (List.getElem?_eq_getElem hl)⟩
/-- a changeable thing's address: tracked, not fixed -/
theorem R.mutAt {ρ : DE} {σ : L2.St} (r : R K F0 H0 F ρ σ H) {i : Nat} {x : DV} (h : ρ[i]? = some x) (m : x.mut = true) : ∃ a o, σ[i]? = some (some (V.ref a)) ∧ H a = some o ∧ F a = none ∧ H0 a = none := by
  obtain ⟨o, e, q⟩ := r.get h
  cases x with
  | bot => cases m
  | dat d => cases m
  | raw v => cases m
  | own ds => obtain ⟨a, vs, rfl, ha, _, n, z⟩ := q; exact ⟨a, _, e, ha, n, z⟩
  | dct kvs => obtain ⟨a, xs, rfl, ha, _, n, z⟩ := q; exact ⟨a, _, e, ha, n, z⟩
/-- a new address is no one's -/
theorem R.fresh {ρ : DE} {σ : L2.St} (r : R K F0 H0 F ρ σ H) {a : Addr} (hn : H a = none) : ∀ (j : Nat) y, ρ[j]? = some y → y.mut = true → σ[j]? ≠ some (some (V.ref a)) := fun j y h m e => by
  obtain ⟨b, o, e2, hb, _⟩ := r.mutAt h m
  rw [e] at e2
  cases e2
  rw [hn] at hb
  cases hb
end
end DL

namespace DL
open PySem PySem.Spec L2

/-! ### what a reading is worth -/
/-- a fixed datum -/
def Sd (K : PySem.W.Frag) (t : TE) (g : DE → Option D) : Prop := ∀ (F0 H0 F : Hp) (ρ : DE) (σ : L2.St) (H : Hp) (d : D), R K F0 H0 F ρ σ H → g ρ = some d →
  ∀ Q : VK, (∀ v F' H', Ext F H F' H' → Dp K F' v d → Q v H') → t σ H Q
/-- a datum as it stands now -/
def Sb (K : PySem.W.Frag) (t : TE) (g : DE → Option D) : Prop := ∀ (F0 H0 F : Hp) (ρ : DE) (σ : L2.St) (H : Hp) (d : D), R K F0 H0 F ρ σ H → g ρ = some d →
  ∀ Q : VK, (∀ v F' H', Ext F H F' H' → Dp K H' v d → Q v H') → t σ H Q
/-- a list to be read, its items fixed -/
def Sl (K : PySem.W.Frag) (t : TE) (g : DE → Option (List D)) : Prop := ∀ (F0 H0 F : Hp) (ρ : DE) (σ : L2.St) (H : Hp) (ds : List D), R K F0 H0 F ρ σ H → g ρ = some ds →
  ∀ Q : VK, (∀ a vs F' H', Ext F H F' H' → SqL K H' a vs → DpAll K F' vs ds → Q (.ref a) H') → t σ H Q
/-- a new list that nothing else knows -/
def Sn (K : PySem.W.Frag) (t : TE) (g : DE → Option (List D)) : Prop := ∀ (F0 H0 F : Hp) (ρ : DE) (σ : L2.St) (H : Hp) (ds : List D), R K F0 H0 F ρ σ H → g ρ = some ds →
  ∀ Q : VK, (∀ a vs F' H', Ext F H F' H' → H' a = some (.lst vs) → H a = none → F' a = none → DpAll K F' vs ds → Q (.ref a) H') → t σ H Q
/-- a truth value -/
def So (K : PySem.W.Frag) (t : TE) (g : DE → Option Bool) : Prop := ∀ (F0 H0 F : Hp) (ρ : DE) (σ : L2.St) (H : Hp) (b : Bool), R K F0 H0 F ρ σ H → g ρ = some b →
  ∀ Q : VK, (∀ F' H', Ext F H F' H' → Q (.bl b) H') → t σ H Q
/-- a test -/
def Stt (K : PySem.W.Frag) (t : TT) (g : DE → Option Bool) : Prop := ∀ (F0 H0 F : Hp) (ρ : DE) (σ : L2.St) (H : Hp) (b : Bool), R K F0 H0 F ρ σ H → g ρ = some b →
  ∀ Q : Bool → Hp → Prop, (∀ F' H', Ext F H F' H' → Q b H') → t σ H Q
/-- arguments, fixed; arguments as they stand -/
def Sa (K : PySem.W.Frag) (t : TA) (g : DE → Option (List D)) : Prop := ∀ (F0 H0 F : Hp) (ρ : DE) (σ : L2.St) (H : Hp) (ds : List D), R K F0 H0 F ρ σ H → g ρ = some ds →
  ∀ Q : List V → Hp → Prop, (∀ vs F' H', Ext F H F' H' → DpAll K F' vs ds → Q vs H') → t σ H Q
def Sab (K : PySem.W.Frag) (t : TA) (g : DE → Option (List D)) : Prop := ∀ (F0 H0 F : Hp) (ρ : DE) (σ : L2.St) (H : Hp) (ds : List D), R K F0 H0 F ρ σ H → g ρ = some ds →
  ∀ Q : List V → Hp → Prop, (∀ vs F' H', Ext F H F' H' → DpAll K H' vs ds → Q vs H') → t σ H Q

structure PD (K : PySem.W.Frag) (X : Cx) (e : Expr) (t : TE) (g : DE → Option D) : Prop where
  pe : X.K = K → PE X e t
  ok : Sd K t g
structure PB (K : PySem.W.Frag) (X : Cx) (e : Expr) (t : TE) (g : DE → Option D) : Prop where
  pe : X.K = K → PE X e t
  ok : Sb K t g
structure PL (K : PySem.W.Frag) (X : Cx) (e : Expr) (t : TE) (g : DE → Option (List D)) : Prop where
  pe : X.K = K → PE X e t
  ok : Sl K t g
structure PN (K : PySem.W.Frag) (X : Cx) (e : Expr) (t : TE) (g : DE → Option (List D)) : Prop where
  pe : X.K = K → PE X e t
  ok : Sn K t g
structure PO' (K : PySem.W.Frag) (X : Cx) (e : Expr) (t : TE) (g : DE → Option Bool) : Prop where
  pe : X.K = K → PE X e t
  ok : So K t g
structure PTd (K : PySem.W.Frag) (X : Cx) (e : Expr) (t : TT) (g : DE → Option Bool) : Prop where
  pt : X.K = K → PT X e t
  ok : Stt K t g
/-- a test whatever its 'whole' is (and, or) -/
structure PWd (K : PySem.W.Frag) (X : Cx) (e : Expr) (t : TT) (g : DE → Option Bool) : Prop where
  pw : X.K = K → PW X e t
  ok : Stt K t g
structure PAd (K : PySem.W.Frag) (X : Cx) (es : List Expr) (t : TA) (g : DE → Option (List D)) : Prop where
  pa : X.K = K → PA X es t
  ok : Sa K t g
structure PAb (K : PySem.W.Frag) (X : Cx) (es : List Expr) (t : TA) (g : DE → Option (List D)) : Prop where
  pa : X.K = K → PA X es t
  ok : Sab K t g

/-! ### the words for what is reckoned -/
def eVar (i : Nat) : DE → Option D := fun ρ => match ρ[i]? with
  | some (.dat d) => some d
  | _ => none
def eOwn (i : Nat) : DE → Option (List D) := fun ρ => match ρ[i]? with
  | some (.own ds) => some ds
  | _ => none
def eC (d : D) : DE → Option D := fun _ => some d
def asL : D → Option (List D)
  | .list ds => some ds
  | _ => none
def asT : D → Option (List D)
  | .tuple ds => some ds
  | _ => none
def asB : D → Option Bool
  | .bool b => some b
  | _ => none
def asI : D → Option Int
  | .int b => some b
  | _ => none
def eToL (g : DE → Option D) : DE → Option (List D) := fun ρ => (g ρ).bind asL
def eOfL (g : DE → Option (List D)) : DE → Option D := fun ρ => (g ρ).bind fun ds => some (.list ds)
def eToB (g : DE → Option D) : DE → Option Bool := fun ρ => (g ρ).bind asB
def eOfB (g : DE → Option Bool) : DE → Option D := fun ρ => (g ρ).bind fun b => some (.bool b)
def e1 {α : Type} (f : D → Option α) (g : DE → Option D) : DE → Option α := fun ρ => (g ρ).bind f
def e2 {α : Type} (f : D → D → Option α) (g h : DE → Option D) : DE → Option α := fun ρ => (g ρ).bind fun x => (h ρ).bind fun y => f x y
def eNil : DE → Option (List D) := fun _ => some []
def eCons (g : DE → Option D) (h : DE → Option (List D)) : DE → Option (List D) := fun ρ => (g ρ).bind fun x => (h ρ).bind fun xs => some (x :: xs)

section
variable {K : PySem.W.Frag} {X : Cx} {e : Expr} {t : TE} {g : DE → Option D} {gl : DE → Option (List D)} {gb : DE → Option Bool} {pos : Pos}
theorem bindSome {α β : Type} {x : Option α} {f : α → Option β} {b : β} (h : x.bind f = some b) : ∃ a, x = some a ∧ f a = some b := by
  cases x with
  | none => cases h
  | some a => exact ⟨a, rfl, h⟩

/-! ### from mode to mode -/
theorem PD.b (h : PD K X e t g) : PB K X e t g := ⟨h.pe, fun F0 H0 F ρ σ H d r hg Q q => h.ok F0 H0 F ρ σ H d r hg Q fun v F' H' ex dp => q v F' H' ex (Dp.mono ex.i dp)⟩
theorem PD.l (h : PD K X e t g) : PL K X e t (eToL g) := ⟨h.pe, fun F0 H0 F ρ σ H ds r hg Q q => by
  obtain ⟨d, h1, h2⟩ := bindSome hg
  refine h.ok F0 H0 F ρ σ H d r h1 Q fun v F' H' ex dp => ?_
  cases d <;> simp only [asL] at h2 <;> try cases h2
  cases dp with
  | lst sq al => exact q _ _ F' H' ex (ex.i.seq sq) al⟩
theorem PL.b (h : PL K X e t gl) : PB K X e t (eOfL gl) := ⟨h.pe, fun F0 H0 F ρ σ H d r hg Q q => by
  obtain ⟨ds, h1, h2⟩ := bindSome hg
  cases h2
  exact h.ok F0 H0 F ρ σ H ds r h1 Q fun a vs F' H' ex sq al => q _ F' H' ex (.lst sq (DpAll.mono ex.i al))⟩
theorem PN.l (h : PN K X e t gl) : PL K X e t gl := ⟨h.pe, fun F0 H0 F ρ σ H ds r hg Q q => h.ok F0 H0 F ρ σ H ds r hg Q fun a vs F' H' ex ha _ _ al => q a vs F' H' ex (SqL.of ha) al⟩
theorem PN.d (h : PN K X e t gl) : PD K X e t (eOfL gl) := ⟨h.pe, fun F0 H0 F ρ σ H d r hg Q q => by
  obtain ⟨ds, h1, h2⟩ := bindSome hg
  cases h2
  refine h.ok F0 H0 F ρ σ H ds r h1 Q fun a vs F' H' ex ha hn fn al => q _ (upd F' a (.lst vs)) H' ⟨ex.h, ex.f.trans (same_upd fn), fun b o hb => ?_, fun b hb gb => ?_⟩ (.lst (SqL.of upd_same) (DpAll.mono (same_upd fn) al))
  · by_cases z : b = a
    · subst z; rw [upd_same] at hb; cases hb; exact ha
    · rw [upd_ne z] at hb; exact ex.i _ _ hb
  · rw [upd_ne (fun z => by subst z; exact gb hn)]
    exact ex.n b hb gb⟩
theorem PO'.d (h : PO' K X e t gb) : PD K X e t (eOfB gb) := ⟨h.pe, fun F0 H0 F ρ σ H d r hg Q q => by
  obtain ⟨b, h1, h2⟩ := bindSome hg
  cases h2
  exact h.ok F0 H0 F ρ σ H b r h1 Q fun F' H' ex => q _ F' H' ex (.bl b)⟩
theorem PB.o (h : PB K X e t g) : PO' K X e t (eToB g) := ⟨h.pe, fun F0 H0 F ρ σ H b r hg Q q => by
  obtain ⟨d, h1, h2⟩ := bindSome hg
  refine h.ok F0 H0 F ρ σ H d r h1 Q fun v F' H' ex dp => ?_
  cases d <;> simp only [asB] at h2 <;> try cases h2
  cases dp with
  | bl b => exact q F' H' ex⟩
theorem PO'.tt (h : PO' K X e t gb) (he : ∀ whole, isTrue e X.env whole = (do let v ← whole; standAt e.pos; holding [v] (truthy v)) := by intro _; rfl) : PTd K X e (tB t) gb :=
  ⟨fun k => pt_val (h.pe k) he, fun F0 H0 F ρ σ H b r hg Q q => h.ok F0 H0 F ρ σ H b r hg _ fun F' H' ex => ⟨b, rfl, q F' H' ex⟩⟩
theorem PWd.tt {t : TT} (h : PWd K X e t gb) : PTd K X e t gb := ⟨fun k => (h.pw k).pt, h.ok⟩

/-! ### names, constants -/
theorem pd_var (i : Nat) {x : Str} {pos : Pos} (hN : X.N[i]? = some x := by rfl) (hv : Vis X.env.scope x := by first | exact Or.inl rfl | exact Or.inr (Or.inl rfl) | exact Or.inr (Or.inr rfl)) (hd : (x == ("__debug__" : Str)) = false := by decide)
    (hcd : (x == ("__classdict__" : Str)) = false := by decide) : PD K X (.Name x pos) (tVar i) (eVar i) := ⟨fun _ => pe_var hN hv hd hcd, fun F0 H0 F ρ σ H d r hg Q q => by
  unfold eVar at hg
  split at hg
  · rename_i d' e1
    cases hg
    obtain ⟨o, e2, v, rfl, dp⟩ := r.get e1
    exact ⟨v, e2, q v F H (Ext.refl r.f) dp⟩
  · cases hg⟩
theorem pl_own (i : Nat) {x : Str} {pos : Pos} (hN : X.N[i]? = some x := by rfl) (hv : Vis X.env.scope x := by first | exact Or.inl rfl | exact Or.inr (Or.inl rfl) | exact Or.inr (Or.inr rfl)) (hd : (x == ("__debug__" : Str)) = false := by decide)
    (hcd : (x == ("__classdict__" : Str)) = false := by decide) : PL K X (.Name x pos) (tVar i) (eOwn i) := ⟨fun _ => pe_var hN hv hd hcd, fun F0 H0 F ρ σ H ds r hg Q q => by
  unfold eOwn at hg
  split at hg
  · rename_i d' e1
    cases hg
    obtain ⟨o, e2, a, vs, rfl, ha, al, fn, _⟩ := r.get e1
    exact ⟨_, e2, q a vs F H (Ext.refl r.f) (SqL.of ha) al⟩
  · cases hg⟩
theorem sd_C {v : V} {d : D} (h : ∀ F, Dp K F v d) : Sd K (tC v) (eC d) := fun F0 H0 F ρ σ H d' r hg Q q => by
  cases hg
  exact q v F H (Ext.refl r.f) (h F)
theorem pd_int {i j pos} : PD K X (.Constant (.int i) j pos) (tC (.int i)) (eC (.int i)) := ⟨fun _ => pe_int, sd_C fun _ => .int i⟩
theorem pd_bl {b j pos} : PD K X (.Constant (.bool b) j pos) (tC (.bl b)) (eC (.bool b)) := ⟨fun _ => pe_bl, sd_C fun _ => .bl b⟩
theorem pd_non {j pos} : PD K X (.Constant .none j pos) (tC .non) (eC .none) := ⟨fun _ => pe_non, sd_C fun _ => .non⟩
theorem pd_str {x j pos} : PD K X (.Constant (.str x) j pos) (tC (.str x)) (eC (.str x)) := ⟨fun _ => pe_str, sd_C fun _ => .str x⟩
/-- a module's constant int, text -/
theorem pd_globI {x : Str} {i : Int} {tk : Tok} {pos : Pos} (hg : Gl X x) (hm : X.mg x = some (.int i tk)) (hd : (x == ("__debug__" : Str)) = false := by decide) : PD K X (.Name x pos) (tC (.int i)) (eC (.int i)) := ⟨fun _ => pe_glob hg hm ⟨_, rfl⟩ hd, sd_C fun _ => .int i⟩
theorem pd_globS {x : Str} {i : Str} {tk : Tok} {pos : Pos} (hg : Gl X x) (hm : X.mg x = some (.str i tk)) (hd : (x == ("__debug__" : Str)) = false := by decide) : PD K X (.Name x pos) (tC (.str i)) (eC (.str i)) := ⟨fun _ => pe_glob hg hm ⟨_, rfl⟩ hd, sd_C fun _ => .str i⟩

/-! ### arguments -/
variable {es : List Expr} {ta : TA} {ga : DE → Option (List D)}
theorem pad_nil : PAd K X [] tNil eNil := ⟨fun _ => pa_nil, fun F0 H0 F ρ σ H ds r hg Q q => by cases hg; exact q [] F H (Ext.refl r.f) .nil⟩
theorem pad_cons (h : PD K X e t g) (hr : PAd K X es ta ga) (hs : starEach (e :: es) X.env = (false, eval e X.env) :: starEach es X.env := by rfl) : PAd K X (e :: es) (tCons t ta) (eCons g ga) :=
  ⟨fun k => pa_cons (h.pe k) (hr.pa k) hs, fun F0 H0 F ρ σ H ds r hg Q q => by
    obtain ⟨d, h1, h2⟩ := bindSome hg
    obtain ⟨ds', h3, h4⟩ := bindSome h2
    cases h4
    refine h.ok F0 H0 F ρ σ H d r h1 _ fun v F1 H1 x1 d1 => ?_
    exact hr.ok F0 H0 F1 ρ σ H1 ds' (r.ext x1) h3 _ fun vs F2 H2 x2 d2 => q (v :: vs) F2 H2 (x1.trans x2) (.cons (Dp.mono x2.f d1) d2)⟩
theorem pab_nil : PAb K X [] tNil eNil := ⟨fun _ => pa_nil, fun F0 H0 F ρ σ H ds r hg Q q => by cases hg; exact q [] F H (Ext.refl r.f) .nil⟩
theorem pab_cons (h : PB K X e t g) (hr : PAb K X es ta ga) (hs : starEach (e :: es) X.env = (false, eval e X.env) :: starEach es X.env := by rfl) : PAb K X (e :: es) (tCons t ta) (eCons g ga) :=
  ⟨fun k => pa_cons (h.pe k) (hr.pa k) hs, fun F0 H0 F ρ σ H ds r hg Q q => by
    obtain ⟨d, h1, h2⟩ := bindSome hg
    obtain ⟨ds', h3, h4⟩ := bindSome h2
    cases h4
    refine h.ok F0 H0 F ρ σ H d r h1 _ fun v F1 H1 x1 d1 => ?_
    exact hr.ok F0 H0 F1 ρ σ H1 ds' (r.ext x1) h3 _ fun vs F2 H2 x2 d2 => q (v :: vs) F2 H2 (x1.trans x2) (.cons (Dp.mono x2.h d1) d2)⟩

/-! ### displays -/
section
variable {pins : List (Addr × Obj)} {σ : L2.St} {H : Hp} {s : Shared} {xs : List V} {us : List Value}
/-- the object of a new tuple -/
abbrev tupO (us : List Value) : Obj := { cls := .type "tuple", data := .seq us.toArray }
theorem laidTup (I : Inv X pins σ H s) (r : Vals xs us) (hz : xs.length ≤ sizeLine) (tk : Nat) : Inv X pins σ (upd H s.heap.objs.size (.frz (tupO us) (.tup xs))) { s with heap := s.heap.push (tupO us), toks := tk } := by
  have hp := Heap.get?_push_size s.heap (o := tupO us) rfl
  refine I.laid (t' := tk) (fun b u q => Heap.get?_push_of_some _ q) (Nat.le_refl _) ?_
  exact ⟨hp, ⟨hz, us, r, ⟨_, hp, rfl, _, rfl⟩⟩⟩
theorem endTup {Q : VK} (I : Inv X pins σ H s) (r : Vals xs us) (hz : xs.length ≤ sizeLine) (tk : Nat) (q : ∀ p o, H p = none → o.dict = none → Q (.ref p) (upd H p (.frz o (.tup xs)))) : EP X pins σ Q (.ref s.heap.objs.size) { s with heap := s.heap.push (tupO us), toks := tk } :=
  ⟨.ref s.heap.objs.size, _, laidTup I r hz tk, rfl, q _ _ (I.hok.fresh (Nat.le_refl _)) rfl⟩
end
def tTupS (t : TA) : TE := fun σ H Q => t σ H fun xs H1 => xs.length ≤ sizeLine ∧ ∀ p (o : Obj), H1 p = none → o.dict = none → Q (.ref p) (upd H1 p (.frz o (.tup xs)))
theorem pe_tupS {x1} (h : PA X es ta) : PE X (.Tuple es x1 pos) (tTupS ta) := ⟨fun pins s σ H Q I hq => PySem.wpAny_Tuple_spliced (thn (h.run pos pins s σ H _ I hq) fun us s1 ⟨xs, H1, I1, r, z, q⟩ => ⟨by rw [← r.length]; exact z, endTup I1 r z s1.toks q⟩)⟩
def lineOk (ds : List D) : Option (List D) := if ds.length ≤ 16777216 then some ds else none
theorem lineOk_some {ds es : List D} (h : lineOk ds = some es) : es = ds ∧ ds.length ≤ sizeLine := by
  unfold lineOk at h
  split at h
  · cases h; exact ⟨rfl, by rw [sizeLine_eq]; assumption⟩
  · cases h
def eTup (g : DE → Option (List D)) : DE → Option D := fun ρ => ((g ρ).bind lineOk).bind fun ds => some (.tuple ds)
def eLst (g : DE → Option (List D)) : DE → Option (List D) := fun ρ => (g ρ).bind lineOk
theorem pd_tup {x1} (h : PAd K X es ta ga) : PD K X (.Tuple es x1 pos) (tTupS ta) (eTup ga) := ⟨fun k => pe_tupS (h.pa k), fun F0 H0 F ρ σ H d r hg Q q => by
  obtain ⟨ds, h1, h2⟩ := bindSome hg
  obtain ⟨ds', h3, h4⟩ := bindSome h1
  obtain ⟨rfl, hl⟩ := lineOk_some h4
  cases h2
  refine h.ok F0 H0 F ρ σ H _ r h3 _ fun vs F1 H1 x1 d1 => ⟨by rw [(DpAll.length d1)]; exact hl, fun p o hp ho => ?_⟩
  exact q _ _ _ (x1.trans (Ext.new x1.i hp)) (.tup ⟨o, upd_same, ho⟩ (DpAll.mono (same_upd (x1.i.free hp)) d1))⟩
theorem pn_lst (h : PAd K X es ta ga) : PN K X (.List es pos) (tLst ta) (eLst ga) := ⟨fun k => pe_lst (h.pa k), fun F0 H0 F ρ σ H d r hg Q q => by
  obtain ⟨ds', h3, h4⟩ := bindSome hg
  obtain ⟨rfl, hl⟩ := lineOk_some h4
  refine h.ok F0 H0 F ρ σ H _ r h3 _ fun vs F1 H1 x1 d1 => ⟨by rw [(DpAll.length d1)]; exact hl, fun p hp => ?_⟩
  exact q _ _ _ _ (x1.trans (Ext.loose x1.i hp)) upd_same (x1.h.free hp) (x1.i.free hp) d1⟩

/-! ### operators by values -/
/-- on fixed data, a fixed datum -/
def OpD (K : PySem.W.Frag) (r : R2) (f : D → D → Option D) : Prop := ∀ (F H : Hp) x y d e z, Same F H → Dp K F x d → Dp K F y e → f d e = some z → ∀ Q : VK, (∀ v F' H', Ext F H F' H' → Dp K F' v z → Q v H') → r x y H Q
/-- on data as they stand, a truth value -/
def OpB (K : PySem.W.Frag) (r : R2) (f : D → D → Option Bool) : Prop := ∀ (H : Hp) x y d e b, Dp K H x d → Dp K H y e → f d e = some b → ∀ Q : VK, Q (.bl b) H → r x y H Q
variable {a b : Expr} {tb tc : TE} {gx gy gz : DE → Option D}
theorem pd_op {op : Operator} {r : R2} {f : D → D → Option D} (ho : OpD K r f) (hr : X.K = K → OpR X (binaryOp op) r) (ha : PD K X a t gx) (hb : PD K X b tb gy) : PD K X (.BinOp a op b pos) (tOp r t tb) (e2 f gx gy) :=
  ⟨fun k => pe_op (hr k) (ha.pe k) (hb.pe k), fun F0 H0 F ρ σ H d rr hg Q q => by
    obtain ⟨d1, h1, h2⟩ := bindSome hg
    obtain ⟨d2, h3, h4⟩ := bindSome h2
    refine ha.ok F0 H0 F ρ σ H d1 rr h1 _ fun v F1 H1 x1 p1 => ?_
    refine hb.ok F0 H0 F1 ρ σ H1 d2 (rr.ext x1) h3 _ fun u F2 H2 x2 p2 => ?_
    exact ho F2 H2 _ _ d1 d2 d x2.i (Dp.mono x2.f p1) p2 h4 Q fun z F3 H3 x3 p3 => q z F3 H3 ((x1.trans x2).trans x3) p3⟩
theorem pr_op {op : CmpOp} {r : R2} {f : D → D → Option Bool} (ho : OpB K r f) (hr : X.K = K → OpR X (compareOp op) r) (ha : PB K X a t gx) (hb : PB K X b tb gy) (hm : behindInMarks op b = false := by first | exact nomark _ | rfl) : PO' K X (.Compare a [op] [b] pos) (tOp r t tb) (e2 f gx gy) :=
  ⟨fun k => pe_cmpR (hr k) (ha.pe k) (hb.pe k) hm, fun F0 H0 F ρ σ H d rr hg Q q => by
    obtain ⟨d1, h1, h2⟩ := bindSome hg
    obtain ⟨d2, h3, h4⟩ := bindSome h2
    refine ha.ok F0 H0 F ρ σ H d1 rr h1 _ fun v F1 H1 x1 p1 => ?_
    refine hb.ok F0 H0 F1 ρ σ H1 d2 (rr.ext x1) h3 _ fun u F2 H2 x2 p2 => ?_
    exact ho H2 _ _ d1 d2 d (Dp.mono x2.h p1) p2 h4 Q (q F2 H2 (x1.trans x2))⟩
theorem pt_op {op : CmpOp} {r : R2} {f : D → D → Option Bool} (ho : OpB K r f) (hr : X.K = K → OpR X (compareOp op) r) (ha : PB K X a t gx) (hb : PB K X b tb gy) (hm : behindInMarks op b = false := by first | exact nomark _ | rfl) : PTd K X (.Compare a [op] [b] pos) (tTest (tOp r t tb)) (e2 f gx gy) :=
  ⟨fun k => pt_cmpR (hr k) (ha.pe k) (hb.pe k) hm, fun F0 H0 F ρ σ H d rr hg Q q => by
    obtain ⟨d1, h1, h2⟩ := bindSome hg
    obtain ⟨d2, h3, h4⟩ := bindSome h2
    refine ha.ok F0 H0 F ρ σ H d1 rr h1 _ fun v F1 H1 x1 p1 => ?_
    refine hb.ok F0 H0 F1 ρ σ H1 d2 (rr.ext x1) h3 _ fun u F2 H2 x2 p2 => ?_
    exact ho H2 _ _ d1 d2 d (Dp.mono x2.h p1) p2 h4 _ ⟨d, rfl, q F2 H2 (x1.trans x2)⟩⟩
def eChain (f f' : D → D → Option Bool) (gx gy gz : DE → Option D) : DE → Option Bool := fun ρ => (gx ρ).bind fun x => (gy ρ).bind fun y => (f x y).bind fun k => if k = true then (gz ρ).bind fun z => f' y z else some false
theorem sb_chain {r r' : R2} {f f' : D → D → Option Bool} (ho : OpB K r f) (ho' : OpB K r' f') (ha : Sb K t gx) (hb : Sb K tb gy) (hc : Sb K tc gz) : So K (tChain r r' t tb tc) (eChain f f' gx gy gz) := fun F0 H0 F ρ σ H d rr hg Q q => by
  obtain ⟨d1, h1, h2⟩ := bindSome hg
  obtain ⟨d2, h3, h4⟩ := bindSome h2
  obtain ⟨k, h5, h6⟩ := bindSome h4
  refine ha F0 H0 F ρ σ H d1 rr h1 _ fun v F1 H1 x1 p1 => ?_
  refine hb F0 H0 F1 ρ σ H1 d2 (rr.ext x1) h3 _ fun u F2 H2 x2 p2 => ?_
  refine ho H2 _ _ d1 d2 k (Dp.mono x2.h p1) p2 h5 _ ⟨k, rfl, ?_⟩
  cases k with
  | false => rw [if_neg Bool.false_ne_true] at h6 ⊢; cases h6; exact q F2 H2 (x1.trans x2)
  | true =>
    rw [if_pos rfl] at h6 ⊢
    obtain ⟨d3, h7, h8⟩ := bindSome h6
    refine hc F0 H0 F2 ρ σ H2 d3 ((rr.ext x1).ext x2) h7 _ fun w F3 H3 x3 p3 => ?_
    exact ho' H3 _ _ d2 d3 d (Dp.mono x3.h p2) p3 h8 Q (q F3 H3 ((x1.trans x2).trans x3))
theorem pr_chain {c : Expr} {op op' : CmpOp} {r r' : R2} {f f' : D → D → Option Bool} (ho : OpB K r f) (ho' : OpB K r' f') (hr : X.K = K → OpR X (compareOp op) r) (hr' : X.K = K → OpR X (compareOp op') r')
    (ha : PB K X a t gx) (hb : PB K X b tb gy) (hc : PB K X c tc gz) (hm : lastMarks [op, op'] [b, c] = false := by with_unfolding_all rfl) : PO' K X (.Compare a [op, op'] [b, c] pos) (tChain r r' t tb tc) (eChain f f' gx gy gz) :=
  ⟨fun k => pe_chain (hr k) (hr' k) (ha.pe k) (hb.pe k) (hc.pe k) hm, sb_chain ho ho' ha.ok hb.ok hc.ok⟩
theorem pt_chainD {c : Expr} {op op' : CmpOp} {r r' : R2} {f f' : D → D → Option Bool} (ho : OpB K r f) (ho' : OpB K r' f') (hr : X.K = K → OpR X (compareOp op) r) (hr' : X.K = K → OpR X (compareOp op') r')
    (ha : PB K X a t gx) (hb : PB K X b tb gy) (hc : PB K X c tc gz) (hm : lastMarks [op, op'] [b, c] = false := by with_unfolding_all rfl) : PTd K X (.Compare a [op, op'] [b, c] pos) (tTest (tChain r r' t tb tc)) (eChain f f' gx gy gz) :=
  ⟨fun k => pt_chain (hr k) (hr' k) (ha.pe k) (hb.pe k) (hc.pe k) hm, fun F0 H0 F ρ σ H b rr hg Q q => sb_chain ho ho' ha.ok hb.ok hc.ok F0 H0 F ρ σ H b rr hg _ fun F' H' ex => ⟨b, rfl, q F' H' ex⟩⟩

/-! ### and, or, not, if .. else -/
def eNot (g : DE → Option Bool) : DE → Option Bool := fun ρ => (g ρ).bind fun b => some (!b)
def eAnd (g h : DE → Option Bool) : DE → Option Bool := fun ρ => (g ρ).bind fun b => if b = true then h ρ else some false
def eOr (g h : DE → Option Bool) : DE → Option Bool := fun ρ => (g ρ).bind fun b => if b = true then some true else h ρ
def eIf {α : Type} (c : DE → Option Bool) (g h : DE → Option α) : DE → Option α := fun ρ => (c ρ).bind fun b => if b = true then g ρ else h ρ
variable {rest : List Expr} {tA tB' : TT} {g1 g2 : DE → Option Bool}
theorem pt_notD (h : PTd K X a tA g1) : PTd K X (.UnaryOp .Not a pos) (tNot tA) (eNot g1) := ⟨fun k => pt_not (h.pt k), fun F0 H0 F ρ σ H b r hg Q q => by
  obtain ⟨c, h1, h2⟩ := bindSome hg
  cases h2
  exact h.ok F0 H0 F ρ σ H c r h1 _ q⟩
theorem pw_and1D (h : PTd K X a tA g1) : PWd K X (.BoolOp .And [a] pos) tA g1 := ⟨fun k => pw_and1 (h.pt k), h.ok⟩
theorem pw_or1D (h : PTd K X a tA g1) : PWd K X (.BoolOp .Or [a] pos) tA g1 := ⟨fun k => pw_or1 (h.pt k), h.ok⟩
theorem pw_andD (h : PTd K X a tA g1) (h' : PWd K X (.BoolOp .And (b :: rest) pos) tB' g2) : PWd K X (.BoolOp .And (a :: b :: rest) pos) (tAnd tA tB') (eAnd g1 g2) := ⟨fun k => pw_and (h.pt k) (h'.pw k), fun F0 H0 F ρ σ H d r hg Q q => by
  obtain ⟨c, h1, h2⟩ := bindSome hg
  refine h.ok F0 H0 F ρ σ H c r h1 _ fun F1 H1 x1 => ?_
  cases c with
  | true => rw [if_pos rfl] at h2 ⊢; exact h'.ok F0 H0 F1 ρ σ H1 d (r.ext x1) h2 Q fun F2 H2 x2 => q F2 H2 (x1.trans x2)
  | false => rw [if_neg Bool.false_ne_true] at h2 ⊢; cases h2; exact q F1 H1 x1⟩
theorem pw_orD (h : PTd K X a tA g1) (h' : PWd K X (.BoolOp .Or (b :: rest) pos) tB' g2) : PWd K X (.BoolOp .Or (a :: b :: rest) pos) (tOr tA tB') (eOr g1 g2) := ⟨fun k => pw_or (h.pt k) (h'.pw k), fun F0 H0 F ρ σ H d r hg Q q => by
  obtain ⟨c, h1, h2⟩ := bindSome hg
  refine h.ok F0 H0 F ρ σ H c r h1 _ fun F1 H1 x1 => ?_
  cases c with
  | false => rw [if_neg Bool.false_ne_true] at h2 ⊢; exact h'.ok F0 H0 F1 ρ σ H1 d (r.ext x1) h2 Q fun F2 H2 x2 => q F2 H2 (x1.trans x2)
  | true => rw [if_pos rfl] at h2 ⊢; cases h2; exact q F1 H1 x1⟩
theorem po_not (h : PO' K X a t g1) : PO' K X (.UnaryOp .Not a pos) (tNotV t) (eNot g1) := ⟨fun k => pe_not (h.pe k), fun F0 H0 F ρ σ H b r hg Q q => by
  obtain ⟨c, h1, h2⟩ := bindSome hg
  cases h2
  exact h.ok F0 H0 F ρ σ H c r h1 _ fun F' H' ex => ⟨c, rfl, q F' H' ex⟩⟩
theorem po_one {op} (h : PO' K X a t g1) : PO' K X (.BoolOp op [a] pos) t g1 := ⟨fun k => pe_one (h.pe k), h.ok⟩
theorem po_and (h : PO' K X a t g1) (h' : PO' K X (.BoolOp .And (b :: rest) pos) tb g2) : PO' K X (.BoolOp .And (a :: b :: rest) pos) (tAndV t tb) (eAnd g1 g2) := ⟨fun k => pe_and (h.pe k) (h'.pe k), fun F0 H0 F ρ σ H d r hg Q q => by
  obtain ⟨c, h1, h2⟩ := bindSome hg
  refine h.ok F0 H0 F ρ σ H c r h1 _ fun F1 H1 x1 => ⟨c, rfl, ?_⟩
  cases c with
  | true => rw [if_pos rfl] at h2 ⊢; exact h'.ok F0 H0 F1 ρ σ H1 d (r.ext x1) h2 Q fun F2 H2 x2 => q F2 H2 (x1.trans x2)
  | false => rw [if_neg Bool.false_ne_true] at h2 ⊢; cases h2; exact q F1 H1 x1⟩
theorem po_or (h : PO' K X a t g1) (h' : PO' K X (.BoolOp .Or (b :: rest) pos) tb g2) : PO' K X (.BoolOp .Or (a :: b :: rest) pos) (tOrV t tb) (eOr g1 g2) := ⟨fun k => pe_or (h.pe k) (h'.pe k), fun F0 H0 F ρ σ H d r hg Q q => by
  obtain ⟨c, h1, h2⟩ := bindSome hg
  refine h.ok F0 H0 F ρ σ H c r h1 _ fun F1 H1 x1 => ⟨c, rfl, ?_⟩
  cases c with
  | false => rw [if_neg Bool.false_ne_true] at h2 ⊢; exact h'.ok F0 H0 F1 ρ σ H1 d (r.ext x1) h2 Q fun F2 H2 x2 => q F2 H2 (x1.trans x2)
  | true => rw [if_pos rfl] at h2 ⊢; cases h2; exact q F1 H1 x1⟩
variable {c : Expr} {gc : DE → Option Bool}
theorem pd_if (hc : PTd K X c tA gc) (ha : PD K X a t gx) (hb : PD K X b tb gy) : PD K X (.IfExp c a b pos) (tIf tA t tb) (eIf gc gx gy) := ⟨fun k => pe_ifExp (hc.pt k) (ha.pe k) (hb.pe k), fun F0 H0 F ρ σ H d r hg Q q => by
  obtain ⟨c, h1, h2⟩ := bindSome hg
  refine hc.ok F0 H0 F ρ σ H c r h1 _ fun F1 H1 x1 => ?_
  cases c with
  | true => rw [if_pos rfl] at h2 ⊢; exact ha.ok F0 H0 F1 ρ σ H1 d (r.ext x1) h2 Q fun v F2 H2 x2 => q v F2 H2 (x1.trans x2)
  | false => rw [if_neg Bool.false_ne_true] at h2 ⊢; exact hb.ok F0 H0 F1 ρ σ H1 d (r.ext x1) h2 Q fun v F2 H2 x2 => q v F2 H2 (x1.trans x2)⟩
theorem pb_if (hc : PTd K X c tA gc) (ha : PB K X a t gx) (hb : PB K X b tb gy) : PB K X (.IfExp c a b pos) (tIf tA t tb) (eIf gc gx gy) := ⟨fun k => pe_ifExp (hc.pt k) (ha.pe k) (hb.pe k), fun F0 H0 F ρ σ H d r hg Q q => by
  obtain ⟨c, h1, h2⟩ := bindSome hg
  refine hc.ok F0 H0 F ρ σ H c r h1 _ fun F1 H1 x1 => ?_
  cases c with
  | true => rw [if_pos rfl] at h2 ⊢; exact ha.ok F0 H0 F1 ρ σ H1 d (r.ext x1) h2 Q fun v F2 H2 x2 => q v F2 H2 (x1.trans x2)
  | false => rw [if_neg Bool.false_ne_true] at h2 ⊢; exact hb.ok F0 H0 F1 ρ σ H1 d (r.ext x1) h2 Q fun v F2 H2 x2 => q v F2 H2 (x1.trans x2)⟩

/-! ### calls of built-ins by values -/
/-- fixed data in, a fixed datum out -/
def ClD (K : PySem.W.Frag) (r : List V → Hp → VK → Prop) (f : List D → Option D) : Prop := ∀ (F H : Hp) vs ds z, Same F H → DpAll K F vs ds → f ds = some z → ∀ Q : VK, (∀ v F' H', Ext F H F' H' → Dp K F' v z → Q v H') → r vs H Q
/-- data as they stand in, a flat datum out -/
def ClB (K : PySem.W.Frag) (r : List V → Hp → VK → Prop) (f : List D → Option D) : Prop := ∀ (H : Hp) vs ds z, DpAll K H vs ds → f ds = some z → ∀ Q : VK, (∀ v, (∀ F, Dp K F v z) → Q v H) → r vs H Q
def eCall (f : List D → Option D) (g : DE → Option (List D)) : DE → Option D := fun ρ => (g ρ).bind f
variable {x : Str} {p : Pos} {id T : String} {r : List V → Hp → VK → Prop} {f : List D → Option D}
theorem sd_cb {ta : TA} {ga : DE → Option (List D)} (hf : ClB K r f) (ha : Sab K ta ga) : Sd K (tCB r ta) (eCall f ga) := fun F0 H0 F ρ σ H d rr hg Q q => by
  obtain ⟨ds, h1, h2⟩ := bindSome hg
  refine ha F0 H0 F ρ σ H ds rr h1 _ fun vs F1 H1 x1 p1 => ?_
  exact hf H1 vs ds d p1 h2 Q fun v hv => q v F1 H1 x1 (hv F1)
theorem sd_cd {ta : TA} {ga : DE → Option (List D)} (hf : ClD K r f) (ha : Sa K ta ga) : Sd K (tCB r ta) (eCall f ga) := fun F0 H0 F ρ σ H d rr hg Q q => by
  obtain ⟨ds, h1, h2⟩ := bindSome hg
  refine ha F0 H0 F ρ σ H ds rr h1 _ fun vs F1 H1 x1 p1 => ?_
  exact hf F1 H1 vs ds d x1.i p1 h2 Q fun v F2 H2 x2 p2 => q v F2 H2 (x1.trans x2) p2
theorem pd_callB (hf : ClB K r f) (hc : X.K = K → CallR X (.builtin id) r) (hg : Gl X x) (hm : X.mg x = none) (hv : bootBuiltins x = some (.builtin id)) (ha : PAb K X (e :: es) ta ga) (hn : x ≠ "__name__" := by decide) (hdb : (x == ("__debug__" : Str)) = false := by decide)
    (he : starEach (e :: es) X.env = (false, eval e X.env) :: starEach es X.env := by rfl) (hpl : (backTo pos (starEach es X.env)).any (·.1) = false := by rfl) : PD K X (.Call (.Name x p) (e :: es) [] pos) (tCB r ta) (eCall f ga) :=
  ⟨fun k => pe_callB (hc k) hg hm hv (ha.pa k) hn hdb he hpl, sd_cb hf ha.ok⟩
theorem pd_callTy (hf : ClB K r f) (hc : X.K = K → CallR X (.type T) r) (hg : Gl X x) (hm : X.mg x = none) (hv : bootBuiltins x = some (.type T)) (ha : PAb K X (e :: es) ta ga) (hn : x ≠ "__name__" := by decide) (hdb : (x == ("__debug__" : Str)) = false := by decide)
    (he : starEach (e :: es) X.env = (false, eval e X.env) :: starEach es X.env := by rfl) (hpl : (backTo pos (starEach es X.env)).any (·.1) = false := by rfl) : PD K X (.Call (.Name x p) (e :: es) [] pos) (tCB r ta) (eCall f ga) :=
  ⟨fun k => pe_callTy (hc k) hg hm hv (ha.pa k) hn hdb he hpl, sd_cb hf ha.ok⟩
theorem pd_callBD (hf : ClD K r f) (hc : X.K = K → CallR X (.builtin id) r) (hg : Gl X x) (hm : X.mg x = none) (hv : bootBuiltins x = some (.builtin id)) (ha : PAd K X (e :: es) ta ga) (hn : x ≠ "__name__" := by decide) (hdb : (x == ("__debug__" : Str)) = false := by decide)
    (he : starEach (e :: es) X.env = (false, eval e X.env) :: starEach es X.env := by rfl) (hpl : (backTo pos (starEach es X.env)).any (·.1) = false := by rfl) : PD K X (.Call (.Name x p) (e :: es) [] pos) (tCB r ta) (eCall f ga) :=
  ⟨fun k => pe_callB (hc k) hg hm hv (ha.pa k) hn hdb he hpl, sd_cd hf ha.ok⟩
theorem pd_callTyD (hf : ClD K r f) (hc : X.K = K → CallR X (.type T) r) (hg : Gl X x) (hm : X.mg x = none) (hv : bootBuiltins x = some (.type T)) (ha : PAd K X (e :: es) ta ga) (hn : x ≠ "__name__" := by decide) (hdb : (x == ("__debug__" : Str)) = false := by decide)
    (he : starEach (e :: es) X.env = (false, eval e X.env) :: starEach es X.env := by rfl) (hpl : (backTo pos (starEach es X.env)).any (·.1) = false := by rfl) : PD K X (.Call (.Name x p) (e :: es) [] pos) (tCB r ta) (eCall f ga) :=
  ⟨fun k => pe_callTy (hc k) hg hm hv (ha.pa k) hn hdb he hpl, sd_cd hf ha.ok⟩

/-! ### calls of defs -/
/-- the promise of a def that changes nothing that stood: it hands back what m reckons -/
def spD (K : PySem.W.Frag) (m : List D → Option D) (n : Nat) : Sp := fun vs H Q _ => vs.length = n ∧ ∃ (F : Hp) (ds : List D) (d : D), Same F H ∧ DpAll K F vs ds ∧ m ds = some d ∧ ∀ v F' H', Ext F H F' H' → Dp K F' v d → Q v H'
variable {CX : CXT} {k : Nat} {fa : Addr} {fd : FuncData} {ps : List Str} {m : List D → Option D} {n : Nat}
theorem sd_call {ta : TA} {ga : DE → Option (List D)} (hn : ∀ ρ ds, ga ρ = some ds → ds.length = n) (ha : Sa K ta ga) : Sd K (tCall (spD K m n) [] E0 ta) (eCall m ga) := fun F0 H0 F ρ σ H d rr hg Q q => by
  obtain ⟨ds, h1, h2⟩ := bindSome hg
  refine ha F0 H0 F ρ σ H ds rr h1 _ fun vs F1 H1 x1 p1 => ?_
  show spD K m n (vs ++ []) H1 Q E0
  rw [List.append_nil]
  exact ⟨by rw [(DpAll.length p1), hn ρ ds h1], F1, ds, d, x1.i, p1, h2, fun v F' H' x2 p2 => q v F' H' (x1.trans x2) p2⟩
theorem eCons_len {g : DE → Option D} {ga : DE → Option (List D)} {n : Nat} (h : ∀ ρ ds, ga ρ = some ds → ds.length = n) : ∀ ρ ds, eCons g ga ρ = some ds → ds.length = n + 1 := fun ρ ds hg => by
  obtain ⟨d, h1, h2⟩ := bindSome hg
  obtain ⟨ds', h3, h4⟩ := bindSome h2
  cases h4
  rw [List.length_cons, h ρ ds' h3]
theorem eNil_len : ∀ ρ ds, eNil ρ = some ds → ds.length = 0 := fun ρ ds hg => by cases hg; rfl
theorem pd_call (Fn : FnOk X.prog X.w X.K X.mg X.base CX k fa fd ps (spD K m n)) (hr : Room k X.A) (hg : Gl X x) (hm : X.mg x = some (.ref fa)) (hk : PySem.W.keepIn X.K (.ref fa) = true) (hb : Binds X.K fd ps []) (hx : Passes CX X E0)
    (hn : ∀ ρ ds, ga ρ = some ds → ds.length = n) (ha : PAd K X (e :: es) ta ga) (hdb : (x == ("__debug__" : Str)) = false := by decide) (he : starEach (e :: es) X.env = (false, eval e X.env) :: starEach es X.env := by rfl) (hpl : (backTo pos (starEach es X.env)).any (·.1) = false := by rfl) :
    PD K X (.Call (.Name x p) (e :: es) [] pos) (tCall (spD K m n) [] E0 ta) (eCall m ga) :=
  ⟨fun q => pe_call Fn hr hg hm hk hb .nil hx (ha.pa q) hdb he hpl, sd_call hn ha.ok⟩
theorem pd_call0 (Fn : FnOk X.prog X.w X.K X.mg X.base CX k fa fd ps (spD K m 0)) (hr : Room k X.A) (hg : Gl X x) (hm : X.mg x = some (.ref fa)) (hk : PySem.W.keepIn X.K (.ref fa) = true) (hb : Binds X.K fd ps []) (hx : Passes CX X E0)
    (hdb : (x == ("__debug__" : Str)) = false := by decide) : PD K X (.Call (.Name x p) [] [] pos) (tCall (spD K m 0) [] E0 tNil) (eCall m eNil) :=
  ⟨fun q => pe_call0 Fn hr hg hm hk hb .nil hx hdb, sd_call eNil_len (pad_nil (X := X)).ok⟩
end
end DL

namespace DL
open PySem PySem.Spec L2

/-- how a statement ends -/
inductive SO where
  | nx (ρ : DE) | ret (d : D) | brk (ρ : DE) | cnt (ρ : DE) | err (c : Str) (ρ : DE) | bad
abbrev DS := DE → SO
abbrev WD := Str → L2.St → Hp → Prop
def Post (K : PySem.W.Frag) (W : WD) (F0 H0 : Hp) (E : Ends) : SO → Prop
  | .nx ρ => ∀ F σ H, R K F0 H0 F ρ σ H → E.nx σ H
  | .brk ρ => ∀ F σ H, R K F0 H0 F ρ σ H → E.bk σ H
  | .cnt ρ => ∀ F σ H, R K F0 H0 F ρ σ H → E.ct σ H
  | .ret d => ∀ v F H, Ext F0 H0 F H → Dp K F v d → E.rt v H
  | .err c ρ => ∀ F σ H, R K F0 H0 F ρ σ H → W c σ H
  | .bad => False
def Ss (K : PySem.W.Frag) (W : WD) (t : TS) (g : DS) : Prop := ∀ (F0 H0 F : Hp) (ρ : DE) (σ : L2.St) (H : Hp) (E : Ends), R K F0 H0 F ρ σ H → Post K W F0 H0 E (g ρ) → t E σ H
structure PSd (K : PySem.W.Frag) (X : Cx) (W : WD) (s : Stmt) (t : TS) (g : DS) : Prop where
  ps : X.K = K → PS X s t
  ok : Ss K W t g
structure PSsd (K : PySem.W.Frag) (X : Cx) (W : WD) (s : List Stmt) (t : TS) (g : DS) : Prop where
  ps : X.K = K → PSs X s t
  ok : Ss K W t g
/-- how a value that is handed on stands for its datum: strongly, or a tuple just to be taken apart -/
abbrev RD := Hp → V → D → Prop
/-- a tuple, just to be taken apart -/
def Dw (K : PySem.W.Frag) : RD := fun F v d => ∃ a vs ds, v = .ref a ∧ d = .tuple ds ∧ SqT K F a vs ∧ DpAll K F vs ds
/-- a target takes a datum -/
def Sg (K : PySem.W.Frag) (A : RD) (is : List Nat) (t : TG) (h : D → DE → Option DE) : Prop := ∀ (F0 H0 F : Hp) (ρ ρ' : DE) (σ : L2.St) (H : Hp) (v : V) (d : D), R K F0 H0 F ρ σ H → A F v d → h d ρ = some ρ' →
  ∀ Q : L2.St → Hp → Prop, (∀ σ', R K F0 H0 F ρ' σ' H → (∀ vs : List Nat, (∀ i ∈ is, i ∈ vs) → wipe σ' vs = wipe σ vs) → Q σ' H) → t v σ H Q
structure PGd (K : PySem.W.Frag) (A : RD) (X : Cx) (is : List Nat) (tg : Expr) (t : TG) (h : D → DE → Option DE) : Prop where
  pg : X.K = K → PG X tg t
  ok : Sg K A is t h
/-- what is walked: these data, one a turn -/
def Yl (A : RD) (J : It) (F1 H1 : Hp) (ds : List D) : Prop := ∀ (i : Nat) (F H : Hp), Same F1 F → Same F H → Same H1 H →
  (∀ d, ds[i]? = some d → J.go i H ∧ ∀ x H', J.yld i H x H' → ∃ F', Ext F H F' H' ∧ A F' x d) ∧ (ds[i]? = none → J.stop i H)
def Yf (A : RD) (J : It) (F1 : Hp) (ds : List D) : Prop := ∀ (i : Nat) (F H : Hp), Same F1 F → Same F H →
  (∀ d, ds[i]? = some d → J.go i H ∧ ∀ x H', J.yld i H x H' → ∃ F', Ext F H F' H' ∧ A F' x d) ∧ (ds[i]? = none → J.stop i H)
def Si (K : PySem.W.Frag) (A : RD) (w : TI) (g : DE → Option (List D)) : Prop := ∀ (F0 H0 F : Hp) (ρ : DE) (σ : L2.St) (H : Hp) (ds : List D), R K F0 H0 F ρ σ H → g ρ = some ds →
  ∀ Q : It → Hp → Prop, (∀ J F' H', Ext F H F' H' → Yf A J F' ds → Q J H') → w σ H Q
def Sil (K : PySem.W.Frag) (A : RD) (w : TI) (g : DE → Option (List D)) : Prop := ∀ (F0 H0 F : Hp) (ρ : DE) (σ : L2.St) (H : Hp) (ds : List D), R K F0 H0 F ρ σ H → g ρ = some ds →
  ∀ Q : It → Hp → Prop, (∀ J F' H', Ext F H F' H' → Yl A J F' H' ds → Q J H') → w σ H Q
structure PId (K : PySem.W.Frag) (A : RD) (X : Cx) (tg iter : Expr) (w : TI) (g : DE → Option (List D)) : Prop where
  pi : X.K = K → PI X tg iter w
  ok : Si K A w g
structure PIl (K : PySem.W.Frag) (A : RD) (X : Cx) (tg iter : Expr) (w : TI) (g : DE → Option (List D)) : Prop where
  pi : X.K = K → PI X tg iter w
  ok : Sil K A w g

/-! ### the words -/
def sNext : DS := fun ρ => .nx ρ
def sSeq (a b : DS) : DS := fun ρ => match a ρ with
  | .nx ρ' => b ρ'
  | r => r
def sSet (i : Nat) (g : DE → Option D) : DS := fun ρ => match g ρ with
  | some d => .nx (ρ.set i (.dat d))
  | none => .bad
def sOwn (i : Nat) (g : DE → Option (List D)) : DS := fun ρ => match g ρ with
  | some ds => .nx (ρ.set i (.own ds))
  | none => .bad
def sExpr (g : DE → Option D) : DS := fun ρ => match g ρ with
  | some _ => .nx ρ
  | none => .bad
def sRet (g : DE → Option D) : DS := fun ρ => match g ρ with
  | some d => .ret d
  | none => .bad
def sIf (c : DE → Option Bool) (a b : DS) : DS := fun ρ => match c ρ with
  | some true => a ρ
  | some false => b ρ
  | none => .bad
def sBrk : DS := fun ρ => .brk ρ
def sCnt : DS := fun ρ => .cnt ρ
def sNever : DS := fun _ => .bad
/-- the list at slot i grows by one -/
def sApp (i : Nat) (g : DE → Option D) : DS := fun ρ => match g ρ with
  | some d => match ρ[i]? with
    | some (.own ds) => if ds.length < 16777216 then .nx (ρ.set i (.own (ds ++ [d]))) else .bad
    | _ => .bad
  | none => .bad
def hName (i : Nat) : D → DE → Option DE := fun d ρ => some (ρ.set i (.dat d))
def hTup (hs : List D → DE → Option DE) : D → DE → Option DE := fun d ρ => (asT d).bind fun ds => hs ds ρ
def hsNil : List D → DE → Option DE := fun ds ρ => match ds with
  | [] => some ρ
  | _ => none
def hsCons (h : D → DE → Option DE) (hs : List D → DE → Option DE) : List D → DE → Option DE := fun ds ρ => match ds with
  | d :: r => (h d ρ).bind fun ρ' => hs r ρ'
  | [] => none
def forD (h : D → DE → Option DE) (b : DS) : List D → DS
  | [] => fun ρ => .nx ρ
  | d :: ds => fun ρ => match h d ρ with
    | none => .bad
    | some ρ1 => match b ρ1 with
      | .nx ρ2 => forD h b ds ρ2
      | .cnt ρ2 => forD h b ds ρ2
      | .brk ρ2 => .nx ρ2
      | r => r
def sFor (g : DE → Option (List D)) (h : D → DE → Option DE) (b : DS) : DS := fun ρ => match g ρ with
  | some ds => forD h b ds ρ
  | none => .bad
def whileD (c : DE → Option Bool) (b : DS) : Nat → DS
  | 0 => fun _ => .bad
  | n + 1 => fun ρ => match c ρ with
    | none => .bad
    | some false => .nx ρ
    | some true => match b ρ with
      | .nx ρ' => whileD c b n ρ'
      | .cnt ρ' => whileD c b n ρ'
      | .brk ρ' => .nx ρ'
      | r => r
def wipeD (ρ : DE) : List Nat → DE
  | [] => ρ
  | v :: vs => (wipeD ρ vs).set v .bot
def compD (h : D → DE → Option DE) (tt : DE → Option Bool) (el : DE → Option D) (ρ : DE) : List D → Option (List D)
  | [] => some []
  | d :: ds => (h d ρ).bind fun ρ1 => (tt ρ1).bind fun b => if b = true then (el ρ1).bind fun y => (compD h tt el ρ ds).bind fun ys => some (y :: ys) else compD h tt el ρ ds
def eLc (vs : List Nat) (g : DE → Option (List D)) (h : D → DE → Option DE) (tt : DE → Option Bool) (el : DE → Option D) : DE → Option (List D) := fun ρ => ((g ρ).bind lineOk).bind fun ds => compD h tt el (wipeD ρ vs) ds
def eYes : DE → Option Bool := fun _ => some true

section
variable {K : PySem.W.Frag} {X : Cx} {W : WD} {F0 H0 F H F' H' : Hp} {ρ : DE} {σ : L2.St} {E : Ends} {pos : Pos}
theorem R.toExt (r : R K F0 H0 F ρ σ H) : Ext F0 H0 F H := ⟨r.s0, r.f0, r.f, r.nw⟩
theorem Ext.back {F1 H1 : Hp} (r1 : Ext F0 H0 F1 H1) (e : Ext F1 H0 F' H') : Ext F0 H0 F' H' := ⟨e.h, r1.f.trans e.f, e.i, fun b hb g => e.n b (r1.n b hb g) g⟩

/-! ### blocks -/
theorem pss_nilD : PSsd K X W [] tNext sNext := ⟨fun _ => pss_nil, fun F0 H0 F ρ σ H E r p => p F σ H r⟩
theorem ss_seq {t u : TS} {g h : DS} (h1 : Ss K W t g) (h2 : Ss K W u h) : Ss K W (tSeq t u) (sSeq g h) := fun F0 H0 F ρ σ H E r p => by
  refine h1 F0 H0 F ρ σ H _ r ?_
  unfold sSeq at p
  revert p
  cases g ρ with
  | nx ρ' => exact fun p F' σ' H' r' => h2 F0 H0 F' ρ' σ' H' E r' p
  | ret d => exact id
  | brk ρ' => exact id
  | cnt ρ' => exact id
  | err c ρ' => exact id
  | bad => exact id
theorem pss_consD {s : Stmt} {rest : List Stmt} {t u : TS} {g h : DS} (h1 : PSd K X W s t g) (h2 : PSsd K X W rest u h) : PSsd K X W (s :: rest) (tSeq t u) (sSeq g h) := ⟨fun k => pss_cons (h1.ps k) (h2.ps k), ss_seq h1.ok h2.ok⟩
theorem pss_oneD {s : Stmt} {t : TS} {g : DS} (h1 : PSd K X W s t g) : PSsd K X W [s] t g := ⟨fun k => pss_one (h1.ps k), h1.ok⟩

/-! ### plain statements -/
section
variable {e : Expr} {t : TE} {g : DE → Option D} {gl : DE → Option (List D)}
theorem ss_asg {is : List Nat} {tg : TG} {h : D → DE → Option DE} (he : Sd K t g) (hg : Sg K (Dp K) is tg h) : Ss K W (tAsg t tg) (fun ρ => match (g ρ).bind fun d => h d ρ with | some ρ' => .nx ρ' | none => .bad) := fun F0 H0 F ρ σ H E r p => by
  cases hd : (g ρ).bind fun d => h d ρ with
  | none => simp only [hd] at p; exact p.elim
  | some ρ' =>
    simp only [hd] at p
    obtain ⟨d, h1, h2⟩ := bindSome hd
    refine he F0 H0 F ρ σ H d r h1 _ fun v F' H' ex dp => ?_
    exact hg F0 H0 F' ρ ρ' σ H' v d (r.ext ex) dp h2 _ fun σ' r' _ => p F' σ' H' r'
theorem wipe_mem {σ : L2.St} {i : Nat} {o : Option V} : ∀ {vs : List Nat}, i ∈ vs → wipe (σ.set i o) vs = wipe σ vs
  | [], h => by cases h
  | v :: vs, h => by
    unfold wipe
    by_cases hi : i ∈ vs
    · rw [wipe_mem hi]
    · have e : i = v := by
        rcases List.mem_cons.mp h with h | h
        · exact h
        · exact absurd h hi
      subst e
      have aux : ∀ (ws : List Nat), i ∉ ws → wipe (σ.set i o) ws = (wipe σ ws).set i o := by
        intro ws
        induction ws with
        | nil => intro _; rfl
        | cons w ws ih =>
          intro hw
          have hne : i ≠ w := fun z => hw (z ▸ List.mem_cons_self)
          unfold wipe
          rw [ih (fun z => hw (List.mem_cons_of_mem _ z)), List.set_comm _ _ hne]
      rw [aux vs hi, List.set_set]
theorem sg_name (i : Nat) : Sg K (Dp K) [i] (gName i) (hName i) := fun F0 H0 F ρ ρ' σ H v d r dp h Q q => by
  cases h
  exact q _ (r.setD dp) fun vs hv => wipe_mem (hv i (by simp))
theorem pgd_name {i : Nat} {x : Str} (hN : X.N.Nodup) (hi : X.N[i]? = some x := by rfl) (hx : Loc X.env.scope x := by first | exact Or.inl rfl | exact Or.inr rfl) (hf : X.fn x = true ∨ X.env.scope.names.lookup x = some .local := by first | exact .inl rfl | exact .inr rfl | assumption) :
    PGd K (Dp K) X [i] (.Name x pos) (gName i) (hName i) := ⟨fun _ => pg_name hN hi hx hf, sg_name i⟩
theorem psd_set {i : Nat} {x : Str} {pos' : Pos} (hN : X.N.Nodup) (he : PD K X e t g) (hi : X.N[i]? = some x := by rfl) (hx : Loc X.env.scope x := by first | exact Or.inl rfl | exact Or.inr rfl) (hs : swapsWith e (some (.Name x pos')) pos.line X.env = pure false := by rfl)
    (hf : X.fn x = true ∨ X.env.scope.names.lookup x = some .local := by first | exact .inl rfl | exact .inr rfl | assumption) : PSd K X W (.Assign [.Name x pos'] e pos) (tAsg t (gName i)) (sSet i g) :=
  ⟨fun k => ps_set hN hi hx (he.pe k) hs hf, fun F0 H0 F ρ σ H E r p => by
    refine ss_asg (W := W) he.ok (sg_name i) F0 H0 F ρ σ H E r ?_
    unfold sSet at p
    cases hd : g ρ with
    | none => rw [hd] at p; exact p.elim
    | some d => rw [hd] at p; show Post K W F0 H0 E (match (g ρ).bind fun d => hName i d ρ with | some ρ' => .nx ρ' | none => .bad); rw [hd]; exact p⟩
theorem ss_own {i : Nat} (he : Sn K t gl) : Ss K W (tAsg t (gName i)) (sOwn i gl) := fun F0 H0 F ρ σ H E r p => by
  unfold sOwn at p
  cases hd : gl ρ with
  | none => rw [hd] at p; exact p.elim
  | some ds =>
    rw [hd] at p
    refine he F0 H0 F ρ σ H ds r hd _ fun a vs F' H' ex ha hn fn al => ?_
    have r' := r.ext ex
    exact p F' _ H' (r'.setO ha al fn (r.s0.free hn) (r.fresh hn))
theorem psd_own {i : Nat} {x : Str} {pos' : Pos} (hN : X.N.Nodup) (he : PN K X e t gl) (hi : X.N[i]? = some x := by rfl) (hx : Loc X.env.scope x := by first | exact Or.inl rfl | exact Or.inr rfl) (hs : swapsWith e (some (.Name x pos')) pos.line X.env = pure false := by rfl)
    (hf : X.fn x = true ∨ X.env.scope.names.lookup x = some .local := by first | exact .inl rfl | exact .inr rfl | assumption) : PSd K X W (.Assign [.Name x pos'] e pos) (tAsg t (gName i)) (sOwn i gl) :=
  ⟨fun k => ps_set hN hi hx (he.pe k) hs hf, ss_own he.ok⟩
theorem psd_expr (he : PD K X e t g) (hs : swapsWith e none pos.line X.env = pure false := by rfl) : PSd K X W (.Expr e pos) (tDrop t) (sExpr g) := ⟨fun k => ps_expr (he.pe k) hs, fun F0 H0 F ρ σ H E r p => by
  unfold sExpr at p
  cases hd : g ρ with
  | none => rw [hd] at p; exact p.elim
  | some d =>
    rw [hd] at p
    exact he.ok F0 H0 F ρ σ H d r hd _ fun v F' H' ex _ => p F' σ H' (r.ext ex)⟩
theorem psd_ret (he : PD K X e t g) : PSd K X W (.Return (some e) pos) (tRet t) (sRet g) := ⟨fun k => ps_ret (he.pe k), fun F0 H0 F ρ σ H E r p => by
  unfold sRet at p
  cases hd : g ρ with
  | none => rw [hd] at p; exact p.elim
  | some d =>
    rw [hd] at p
    exact he.ok F0 H0 F ρ σ H d r hd _ fun v F' H' ex dp => p v F' H' (r.ext ex).toExt dp⟩
theorem psd_retN : PSd K X W (.Return none pos) tRetN (sRet (eC .none)) := ⟨fun k => ps_retN, fun F0 H0 F ρ σ H E r p => p .non F H r.toExt .non⟩
/-- a list of one's own, handed back -/
theorem psd_retO (i : Nat) {x : Str} {pos' : Pos} (hN : X.N[i]? = some x := by rfl) (hv : Vis X.env.scope x := by first | exact Or.inl rfl | exact Or.inr (Or.inl rfl) | exact Or.inr (Or.inr rfl)) (hd : (x == ("__debug__" : Str)) = false := by decide)
    (hcd : (x == ("__classdict__" : Str)) = false := by decide) : PSd K X W (.Return (some (.Name x pos')) pos) (tRet (tVar i)) (sRet (eOfL (eOwn i))) := ⟨fun k => ps_ret (pe_var hN hv hd hcd), fun F0 H0 F ρ σ H E r p => by
  unfold sRet eOfL eOwn at p
  cases e1 : ρ[i]? with
  | none => simp only [e1] at p; exact p.elim
  | some x =>
    simp only [e1] at p
    cases x with
    | bot => exact p.elim
    | dat d => exact p.elim
    | dct d => exact p.elim
    | raw d => exact p.elim
    | own ds =>
      obtain ⟨o, e2, a, vs, rfl, ha, al, fn, hz⟩ := r.get e1
      refine ⟨_, e2, p _ (upd F a (.lst vs)) H ⟨r.s0, r.f0.trans (same_upd fn), fun b o hb => ?_, fun b hb gb => ?_⟩ (.lst (SqL.of upd_same) (DpAll.mono (same_upd fn) al))⟩
      · by_cases z : b = a
        · subst z; rw [upd_same] at hb; cases hb; exact ha
        · rw [upd_ne z] at hb; exact r.f _ _ hb
      · rw [upd_ne (fun z => by subst z; exact gb hz)]
        exact r.nw b hb gb⟩
end
theorem psd_pass : PSd K X W (.Pass pos) tNext sNext := ⟨fun k => ps_pass, fun F0 H0 F ρ σ H E r p => p F σ H r⟩
theorem psd_doc {x j pos'} : PSd K X W (.Expr (.Constant (.str x) j pos') pos) tNext sNext := ⟨fun k => ps_doc, fun F0 H0 F ρ σ H E r p => p F σ H r⟩
theorem psd_break : PSd K X W (.Break pos) tBreak sBrk := ⟨fun k => ps_break, fun F0 H0 F ρ σ H E r p => p F σ H r⟩
theorem psd_cont : PSd K X W (.Continue pos) tCont sCnt := ⟨fun k => ps_continue, fun F0 H0 F ρ σ H E r p => p F σ H r⟩
theorem psd_never {s : Stmt} : PSd K X W s tNever sNever := ⟨fun k => ps_never, fun F0 H0 F ρ σ H E r p => p⟩
theorem psd_if {c : Expr} {a b : List Stmt} {tc : TT} {t u : TS} {gc : DE → Option Bool} {g h : DS} (hc : PTd K X c tc gc) (ha : PSsd K X W a t g) (hb : PSsd K X W b u h) : PSd K X W (.If c a b pos) (tIfS tc t u) (sIf gc g h) :=
  ⟨fun k => ps_if (hc.pt k) (ha.ps k) (hb.ps k), fun F0 H0 F ρ σ H E r p => by
    unfold sIf at p
    cases hd : gc ρ with
    | none => rw [hd] at p; exact p.elim
    | some v =>
      rw [hd] at p
      refine hc.ok F0 H0 F ρ σ H v r hd _ fun F' H' ex => ?_
      cases v with
      | true => rw [if_pos rfl]; exact ha.ok F0 H0 F' ρ σ H' E (r.ext ex) p
      | false => rw [if_neg Bool.false_ne_true]; exact hb.ok F0 H0 F' ρ σ H' E (r.ext ex) p⟩

/-! ### targets of several names -/
def Sgs (K : PySem.W.Frag) (is : List Nat) (t : TGs) (h : List D → DE → Option DE) : Prop := ∀ (F0 H0 F : Hp) (ρ ρ' : DE) (σ : L2.St) (H : Hp) (vs : List V) (ds : List D), R K F0 H0 F ρ σ H → DpAll K F vs ds → h ds ρ = some ρ' →
  ∀ Q : L2.St → Hp → Prop, (∀ σ', R K F0 H0 F ρ' σ' H → (∀ ws : List Nat, (∀ i ∈ is, i ∈ ws) → wipe σ' ws = wipe σ ws) → Q σ' H) → t vs σ H Q
structure PGsd (K : PySem.W.Frag) (X : Cx) (is : List Nat) (ts : List Expr) (t : TGs) (h : List D → DE → Option DE) : Prop where
  pg : X.K = K → PGs X ts t
  ok : Sgs K is t h
theorem pgsd_nil : PGsd K X [] [] gNil hsNil := ⟨fun _ => pgs_nil, fun F0 H0 F ρ ρ' σ H vs ds r al h Q q => by
  cases al with
  | nil => cases h; exact ⟨rfl, q σ r fun _ _ => rfl⟩
  | cons _ _ => cases h⟩
theorem pgsd_cons {e : Expr} {es : List Expr} {t : TG} {u : TGs} {is js : List Nat} {h : D → DE → Option DE} {hs : List D → DE → Option DE} (h1 : PGd K (Dp K) X is e t h) (h2 : PGsd K X js es u hs)
    (hsx : (assignEach (e :: es) X.env).map (·.2) = assign e X.env :: (assignEach es X.env).map (·.2) := by rfl) : PGsd K X (is ++ js) (e :: es) (gCons t u) (hsCons h hs) := ⟨fun k => pgs_cons (h1.pg k) (h2.pg k) hsx, fun F0 H0 F ρ ρ' σ H vs ds r al h' Q q => by
  cases al with
  | nil => cases h'
  | cons dv dr =>
    obtain ⟨ρ1, e1, e2⟩ := bindSome h'
    refine ⟨_, _, rfl, h1.ok F0 H0 F ρ ρ1 σ H _ _ r dv e1 _ fun σ1 r1 w1 => ?_⟩
    exact h2.ok F0 H0 F ρ1 ρ' σ1 H _ _ r1 dr e2 _ fun σ2 r2 w2 => q σ2 r2 fun ws hw => (w2 ws fun i hi => hw i (List.mem_append_right _ hi)).trans (w1 ws fun i hi => hw i (List.mem_append_left _ hi))⟩
theorem pgd_tupW {es : List Expr} {k : Nat} {t : TGs} {is : List Nat} {n : Nat} {hs : List D → DE → Option DE} (hc : X.calm = true) (h : PGsd K X is es t hs) (hl : ∀ ds ρ ρ', hs ds ρ = some ρ' → ds.length = n)
    (hn : (assignEach es X.env).length = n := by rfl) (hst : (assignEach es X.env).findIdx? (·.1) = none := by rfl) : PGd K (Dw K) X is (.Tuple es k pos) (gTup K n t) (hTup hs) := ⟨fun q => by
      have := pg_tup (k := k) (pos := pos) hc (h.pg q) hn hst
      rw [q] at this
      exact this, fun F0 H0 F ρ ρ' σ H v d r dp h' Q q => by
  obtain ⟨ds, e1, e2⟩ := bindSome h'
  obtain ⟨a, vs, ds', rfl, rfl, sq, al⟩ := dp
  cases e1
  exact ⟨_, _, rfl, SqT.mono r.f sq, by rw [DpAll.length al]; exact hl _ _ _ e2, h.ok F0 H0 F ρ ρ' σ H _ _ r al e2 Q q⟩⟩
theorem dw_of {F : Hp} {v : V} {ds : List D} (dp : Dp K F v (.tuple ds)) : Dw K F v (.tuple ds) := by
  cases dp with
  | tup sq al => exact ⟨_, _, _, rfl, rfl, sq.t, al⟩
theorem pgd_tup {es : List Expr} {k : Nat} {t : TGs} {is : List Nat} {n : Nat} {hs : List D → DE → Option DE} (hc : X.calm = true) (h : PGsd K X is es t hs) (hl : ∀ ds ρ ρ', hs ds ρ = some ρ' → ds.length = n)
    (hn : (assignEach es X.env).length = n := by rfl) (hst : (assignEach es X.env).findIdx? (·.1) = none := by rfl) : PGd K (Dp K) X is (.Tuple es k pos) (gTup K n t) (hTup hs) :=
  ⟨(pgd_tupW hc h hl hn hst).pg, fun F0 H0 F ρ ρ' σ H v d r dp h' Q q => by
    obtain ⟨ds, e1, e2⟩ := bindSome h'
    cases d <;> simp only [asT] at e1 <;> cases e1
    exact (pgd_tupW (k := k) (pos := pos) hc h hl hn hst).ok F0 H0 F ρ ρ' σ H v _ r (dw_of dp) h' Q q⟩
theorem hs2_len {h h' : D → DE → Option DE} : ∀ ds ρ ρ', hsCons h (hsCons h' hsNil) ds ρ = some ρ' → ds.length = 2 := fun ds ρ ρ' e => by
  match ds with
  | [] => cases e
  | [_] => obtain ⟨_, _, e⟩ := bindSome e; cases e
  | [_, _] => rfl
  | _ :: _ :: _ :: _ =>
    obtain ⟨_, _, e⟩ := bindSome e
    obtain ⟨_, _, e⟩ := bindSome e
    cases e
theorem hs3_len {h h' h'' : D → DE → Option DE} : ∀ ds ρ ρ', hsCons h (hsCons h' (hsCons h'' hsNil)) ds ρ = some ρ' → ds.length = 3 := fun ds ρ ρ' e => by
  match ds with
  | [] => cases e
  | [_] => obtain ⟨_, _, e⟩ := bindSome e; cases e
  | [_, _] => obtain ⟨_, _, e⟩ := bindSome e; obtain ⟨_, _, e⟩ := bindSome e; cases e
  | [_, _, _] => rfl
  | _ :: _ :: _ :: _ :: _ =>
    obtain ⟨_, _, e⟩ := bindSome e
    obtain ⟨_, _, e⟩ := bindSome e
    obtain ⟨_, _, e⟩ := bindSome e
    cases e
def sAsg (h : D → DE → Option DE) (g : DE → Option D) : DS := fun ρ => match (g ρ).bind fun d => h d ρ with
  | some ρ' => .nx ρ'
  | none => .bad
/-- a, b = e -/
theorem psd_asg {tg e : Expr} {t : TE} {g : DE → Option D} {u : TG} {is : List Nat} {h : D → DE → Option DE} (he : PD K X e t g) (hg : PGd K (Dp K) X is tg u h) (hs : swapsWithSole [tg] e pos.line X.env = pure false := by rfl) (hw : swappedStores [tg] e X.env = pure none := by rfl)
    (h1 : (assignEach [tg] X.env).map (·.2) = [assign tg X.env] := by rfl) : PSd K X W (.Assign [tg] e pos) (tAsg t u) (sAsg h g) := ⟨fun k => ps_asg (he.pe k) (hg.pg k) hs hw h1, ss_asg he.ok hg.ok⟩

/-! ### what is walked -/
theorem PId.l {A : RD} {tg iter : Expr} {w : TI} {g : DE → Option (List D)} (h : PId K A X tg iter w g) : PIl K A X tg iter w g := ⟨h.pi, fun F0 H0 F ρ σ H ds r hg Q q => h.ok F0 H0 F ρ σ H ds r hg Q fun J F' H' ex y => q J F' H' ex fun i F H a b _ => y i F H a b⟩
theorem pil_list {tg l : Expr} {tl : TE} {g : DE → Option (List D)} (hl : PL K X l tl g) : PIl K (Dp K) X tg l (iList K tl) g := ⟨fun k => by
    have := pi_list (tg := tg) (hl.pe k)
    rw [k] at this
    exact this, fun F0 H0 F ρ σ H ds r hg Q q => hl.ok F0 H0 F ρ σ H ds r hg _ fun a vs F' H' ex sq al => ⟨a, rfl, ⟨vs, sq⟩, q _ F' H' ex fun i F H s1 s2 s3 => by
  have sq' : SqL K H a vs := s3.seq sq
  refine ⟨fun d hd => ?_, fun hd => ⟨vs, sq', ?_⟩⟩
  · obtain ⟨v, hv, dp⟩ := DpAll.get' al hd
    refine ⟨⟨vs, v, sq', hv⟩, fun x H'' y => ?_⟩
    obtain ⟨e, y⟩ := y
    subst e
    have := y vs sq'
    rw [hv] at this
    cases this
    exact ⟨F, Ext.refl s2, Dp.mono s1 dp⟩
  · rw [DpAll.length al]; exact List.getElem?_eq_none_iff.mp hd⟩⟩
theorem pid_list {tg l : Expr} {tl : TE} {g : DE → Option D} (hl : PD K X l tl g) : PId K (Dp K) X tg l (iList K tl) (e1 asL g) := ⟨fun k => by
    have := pi_list (tg := tg) (hl.pe k)
    rw [k] at this
    exact this, fun F0 H0 F ρ σ H ds r hg Q q => by
  obtain ⟨d, h1, h2⟩ := bindSome hg
  refine hl.ok F0 H0 F ρ σ H d r h1 _ fun v F' H' ex dp => ?_
  cases d <;> simp only [asL] at h2 <;> try cases h2
  cases dp with
  | @lst a vs _ sq al =>
    refine ⟨a, rfl, ⟨vs, ex.i.seq sq⟩, q _ F' H' ex fun i F H s1 s2 => ?_⟩
    have sq' : SqL K H a vs := (s1.trans s2).seq sq
    refine ⟨fun d hd => ?_, fun hd => ⟨vs, sq', ?_⟩⟩
    · obtain ⟨v, hv, dp⟩ := DpAll.get' al hd
      refine ⟨⟨vs, v, sq', hv⟩, fun x H'' y => ?_⟩
      obtain ⟨e, y⟩ := y
      subst e
      have := y vs sq'
      rw [hv] at this
      cases this
      exact ⟨F, Ext.refl s2, Dp.mono s1 dp⟩
    · rw [DpAll.length al]; exact List.getElem?_eq_none_iff.mp hd⟩
theorem pid_tup {tg l : Expr} {tl : TE} {g : DE → Option D} (hl : PD K X l tl g) : PId K (Dp K) X tg l (iTup K tl) (e1 asT g) := ⟨fun k => by
    have := pi_tup (tg := tg) (hl.pe k)
    rw [k] at this
    exact this, fun F0 H0 F ρ σ H ds r hg Q q => by
  obtain ⟨d, h1, h2⟩ := bindSome hg
  refine hl.ok F0 H0 F ρ σ H d r h1 _ fun v F' H' ex dp => ?_
  cases d <;> simp only [asT] at h2 <;> try cases h2
  cases dp with
  | @tup a vs _ sq al =>
    refine ⟨a, rfl, ⟨vs, SqT.mono ex.i sq.t⟩, q _ F' H' ex fun i F H s1 s2 => ?_⟩
    have sq' : SqT K H a vs := SqT.mono (s1.trans s2) sq.t
    refine ⟨fun d hd => ?_, fun hd => ⟨vs, sq', ?_⟩⟩
    · obtain ⟨v, hv, dp⟩ := DpAll.get' al hd
      refine ⟨⟨vs, v, sq', hv⟩, fun x H'' y => ?_⟩
      obtain ⟨e, y⟩ := y
      subst e
      have := y vs sq'
      rw [hv] at this
      cases this
      exact ⟨F, Ext.refl s2, Dp.mono s1 dp⟩
    · rw [DpAll.length al]; exact List.getElem?_eq_none_iff.mp hd⟩
def rangeL (i : Int) (n : Nat) : List D := (List.range n).map fun (k : Nat) => PyData.int (i + (k : Int))
theorem rangeL_get {i : Int} {n k : Nat} {d : D} (h : (rangeL i n)[k]? = some d) : k < n ∧ d = .int (i + (k : Int)) := by
  unfold rangeL at h
  rw [List.getElem?_map] at h
  cases hk : (List.range n)[k]? with
  | none => rw [hk] at h; cases h
  | some j =>
    rw [hk] at h
    obtain ⟨h1, h2⟩ := List.getElem?_eq_some_iff.mp hk
    rw [List.getElem_range] at h2
    subst h2
    rw [List.length_range] at h1
    cases h
    exact ⟨h1, rfl⟩
theorem yf_range {lo : Int} {n : Nat} {F1 : Hp} : Yf (Dp K) (Itr lo n) F1 (rangeL lo n) := fun i F H s1 s2 => by
  refine ⟨fun d hd => ?_, fun hd => ?_⟩
  · obtain ⟨h1, rfl⟩ := rangeL_get hd
    refine ⟨h1, fun x H' y => ?_⟩
    obtain ⟨e, y⟩ := y
    subst e y
    exact ⟨F, Ext.refl s2, .int _⟩
  · have := List.getElem?_eq_none_iff.mp hd
    unfold rangeL at this
    rw [List.length_map, List.length_range] at this
    exact this
def range1 : D → Option (List D) := fun d => (asI d).bind fun n => if n < 4611686018427387904 then some (rangeL 0 n.toNat) else none
def range2 : D → D → Option (List D) := fun d e => (asI d).bind fun i => (asI e).bind fun j => if (-4611686018427387904 ≤ i ∧ i < 4611686018427387904) ∧ (-4611686018427387904 ≤ j ∧ j < 4611686018427387904) then some (rangeL i (j - i).toNat) else none
theorem asI_some {d : D} {i : Int} (h : asI d = some i) : d = .int i := by
  cases d <;> simp only [asI] at h <;> cases h
  rfl
def rng1 : D → Option (List D) := fun d => (asI d).bind fun n => if -4611686018427387904 ≤ n ∧ n < 4611686018427387904 then some (rangeL 0 n.toNat) else none
theorem pid_range1 {tg a : Expr} {ta : TE} {g : DE → Option D} {p pos : Pos} (hg : Gl X "range") (hm : X.mg "range" = none) (ha : PD K X a ta g) (hs : starEach [a] X.env = [(false, eval a X.env)] := by rfl) (na : starEach [a] X.env = (false, eval a X.env) :: starEach [] X.env := by rfl) : PId K (Dp K) X tg (.Call (.Name "range" p) [a] [] pos) (iRng1 (tCons ta tNil)) (e1 rng1 g) :=
  ⟨fun k => pi_range1 hg hm (pa_cons (ha.pe k) pa_nil na) hs, fun F0 H0 F ρ σ H ds r hgd Q q => by
    obtain ⟨d, h1, h2⟩ := bindSome hgd
    obtain ⟨n, h3, h4⟩ := bindSome h2
    have := asI_some h3
    subst this
    refine ha.ok F0 H0 F ρ σ H _ r h1 _ fun v F' H' ex dp => ?_
    cases dp
    split at h4
    · rename_i hb
      cases h4
      exact ⟨n, rfl, hb.1, hb.2, q _ F' H' ex yf_range⟩
    · cases h4⟩
theorem pid_range2 {tg a b : Expr} {ta tb : TE} {g h : DE → Option D} {p pos : Pos} (hg : Gl X "range") (hm : X.mg "range" = none) (ha : PD K X a ta g) (hb : PD K X b tb h) (hs : starEach [a, b] X.env = [(false, eval a X.env), (false, eval b X.env)] := by rfl) (hs2 : starEach [b] X.env = [(false, eval b X.env)] := by rfl)
    (na : starEach [a, b] X.env = (false, eval a X.env) :: starEach [b] X.env := by rfl) (nb : starEach [b] X.env = (false, eval b X.env) :: starEach [] X.env := by rfl) :
    PId K (Dp K) X tg (.Call (.Name "range" p) [a, b] [] pos) (iRng2 (tCons ta (tCons tb tNil))) (e2 range2 g h) :=
  ⟨fun k => pi_range2 hg hm (pa_cons (ha.pe k) (pa_cons (hb.pe k) pa_nil nb) na) hs hs2, fun F0 H0 F ρ σ H ds r hgd Q q => by
    obtain ⟨d, h1, h2⟩ := bindSome hgd
    obtain ⟨d', h3, h4⟩ := bindSome h2
    obtain ⟨i, h5, h6⟩ := bindSome h4
    obtain ⟨j, h7, h8⟩ := bindSome h6
    have := asI_some h5
    subst this
    have := asI_some h7
    subst this
    refine ha.ok F0 H0 F ρ σ H _ r h1 _ fun v F1 H1 ex dp => ?_
    refine hb.ok F0 H0 F1 ρ σ H1 _ (r.ext ex) h3 _ fun u F2 H2 ex2 dp2 => ?_
    cases dp
    cases dp2
    split at h8
    · rename_i hbb
      cases h8
      exact ⟨i, j, rfl, ⟨hbb.1.1, hbb.1.2, hbb.2.1, hbb.2.2⟩, q _ F2 H2 (ex.trans ex2) yf_range⟩
    · cases h8⟩
end

/-! ### for, while -/
section
variable {K : PySem.W.Frag} {X : Cx} {W : WD} {pos : Pos}
theorem post_at {F0 H0 F1 H1 : Hp} {ρ1 : DE} {σ1 : L2.St} {E : Ends} (r1 : R K F0 H0 F1 ρ1 σ1 H1) : ∀ {o : SO}, Post K W F0 H0 E o → Post K W F1 H0 E o
  | .nx _, p => fun F σ H r => p F σ H (r1.back r)
  | .brk _, p => fun F σ H r => p F σ H (r1.back r)
  | .cnt _, p => fun F σ H r => p F σ H (r1.back r)
  | .ret _, p => fun v F H ex dp => p v F H (r1.toExt.back ex) dp
  | .err _ _, p => fun F σ H r => p F σ H (r1.back r)
  | .bad, p => p
theorem psd_for {A : RD} {tg iter : Expr} {body : List Stmt} {w : TI} {u : TG} {is : List Nat} {t : TS} {g : DE → Option (List D)} {h : D → DE → Option DE} {b : DS} (hp : PassesOwn (model X.prog X.w) X.A X.env X.xe) (hc : X.calm = true) (hi : PId K A X tg iter w g) (hg : PGd K A X is tg u h) (hb : PSsd K X W body t b)
    (hs : ∀ x, foldedSetIterable iter X.env x = pure x := by intro _; rfl) : PSd K X W (.For tg iter body [] pos) (tFor w u t) (sFor g h b) :=
  ⟨fun k => ps_for hp hc (hi.pi k) (hg.pg k) (hb.ps k) hs, fun F0 H0 F ρ σ H E r p => by
    unfold sFor at p
    cases hd : g ρ with
    | none => rw [hd] at p; exact p.elim
    | some ds =>
      rw [hd] at p
      refine hi.ok F0 H0 F ρ σ H ds r hd _ fun J F1 H1 ex y => ?_
      have r1 := r.ext ex
      refine ⟨fun i m σ H => ∃ F ρ, R K F1 H0 F ρ σ H ∧ m = ds.length - i ∧ i ≤ ds.length ∧ Post K W F0 H0 E (forD h b (ds.drop i) ρ), ⟨_, F1, ρ, r1.at, rfl, Nat.zero_le _, p⟩, fun i m σ3 H3 hW => ?_⟩
      obtain ⟨F3, ρ3, r3, rfl, hi3, p3⟩ := hW
      obtain ⟨y1, y2⟩ := y i F3 H3 r3.f0 r3.f
      by_cases hl : i < ds.length
      · have hd3 : ds[i]? = some ds[i] := List.getElem?_eq_getElem hl
        obtain ⟨go, yl⟩ := y1 _ hd3
        rw [List.drop_eq_getElem_cons hl] at p3
        refine .inr ⟨go, fun σ' H' => ∃ F ρ, R K F1 H0 F ρ σ' H' ∧ Post K W F0 H0 E (forD h b (ds.drop (i + 1)) ρ), fun σ' H' hN => ?_, fun x H' hy => ?_⟩
        · obtain ⟨F', ρ', r', p'⟩ := hN
          exact ⟨ds.length - (i + 1), by omega, F', ρ', r', rfl, hl, p'⟩
        · obtain ⟨F4, ex4, dp⟩ := yl x H' hy
          have r4 := r3.ext ex4
          unfold forD at p3
          cases hh : h ds[i] ρ3 with
          | none => simp only [hh] at p3; exact p3.elim
          | some ρ4 =>
            simp only [hh] at p3
            refine hg.ok F1 H0 F4 ρ3 ρ4 σ3 H' x _ r4 dp hh _ fun σ5 r5 _ => ?_
            refine hb.ok F1 H0 F4 ρ4 σ5 H' _ r5 ?_
            revert p3
            cases b ρ4 with
            | nx ρ6 => exact fun p3 F6 σ6 H6 r6 => ⟨F6, ρ6, r6, p3⟩
            | cnt ρ6 => exact fun p3 F6 σ6 H6 r6 => ⟨F6, ρ6, r6, p3⟩
            | brk ρ6 => exact fun p3 F6 σ6 H6 r6 => p3 F6 σ6 H6 (r1.back r6)
            | ret d => exact fun p3 v F6 H6 ex6 dp6 => p3 v F6 H6 (r1.toExt.back ex6) dp6
            | err c ρ6 => exact fun p3 F6 σ6 H6 r6 => p3 F6 σ6 H6 (r1.back r6)
            | bad => exact id
      · have e : i = ds.length := by omega
        subst e
        rw [List.drop_length] at p3
        exact .inl ⟨y2 (List.getElem?_eq_none_iff.mpr (Nat.le_refl _)), p3 F3 σ3 H3 (r1.back r3)⟩⟩
theorem psd_while {c : Expr} {body : List Stmt} {tc : TT} {t : TS} {gc : DE → Option Bool} {b : DS} (n : Nat) (hp : PassesOwn (model X.prog X.w) X.A X.env X.xe) (hc : PTd K X c tc gc) (hb : PSsd K X W body t b) : PSd K X W (.While c body [] pos) (tWhile tc t) (whileD gc b n) :=
  ⟨fun k => ps_while hp (hc.pt k) (hb.ps k), fun F0 H0 F ρ σ H E r p => by
    refine ⟨fun m σ H => ∃ F ρ, R K F0 H0 F ρ σ H ∧ Post K W F0 H0 E (whileD gc b m ρ), ⟨n, F, ρ, r, p⟩, fun m σ1 H1 hW => ?_⟩
    obtain ⟨F1, ρ1, r1, p1⟩ := hW
    cases m with
    | zero => exact p1.elim
    | succ m =>
      unfold whileD at p1
      cases hd : gc ρ1 with
      | none => simp only [hd] at p1; exact p1.elim
      | some v =>
        simp only [hd] at p1
        refine hc.ok F0 H0 F1 ρ1 σ1 H1 v r1 hd _ fun F2 H2 ex => ?_
        have r2 := r1.ext ex
        cases v with
        | false => rw [if_neg Bool.false_ne_true]; exact p1 F2 σ1 H2 r2
        | true =>
          rw [if_pos rfl]
          refine ⟨fun σ' H' => ∃ F ρ, R K F0 H0 F ρ σ' H' ∧ Post K W F0 H0 E (whileD gc b m ρ), fun σ' H' hN => ⟨m, Nat.lt_succ_self m, hN⟩, ?_⟩
          refine hb.ok F0 H0 F2 ρ1 σ1 H2 _ r2 ?_
          revert p1
          cases b ρ1 with
          | nx ρ6 => exact fun p3 F6 σ6 H6 r6 => ⟨F6, ρ6, r6, p3⟩
          | cnt ρ6 => exact fun p3 F6 σ6 H6 r6 => ⟨F6, ρ6, r6, p3⟩
          | brk ρ6 => exact id
          | ret d => exact id
          | err c ρ6 => exact id
          | bad => exact id⟩
end
end DL

namespace DL
open PySem PySem.Spec L2

/-! ### comprehensions -/
structure PTsd (K : PySem.W.Frag) (X : Cx) (ifs : List Expr) (t : TT) (g : DE → Option Bool) : Prop where
  pt : X.K = K → PTs X ifs t
  ok : Stt K t g
section
variable {K : PySem.W.Frag} {X : Cx} {W : WD} {F0 H0 F H F' H' : Hp} {ρ : DE} {σ : L2.St} {pos : Pos}
theorem ptsd_nil : PTsd K X [] tYes eYes := ⟨fun _ => pts_nil, fun F0 H0 F ρ σ H b r hg Q q => by cases hg; exact q F H (Ext.refl r.f)⟩
theorem ptsd_one {c : Expr} {t : TT} {g : DE → Option Bool} (h : PTd K X c t g) : PTsd K X [c] t g := ⟨fun k => pts_one (h.pt k), h.ok⟩
theorem R.wipes (r : R K F0 H0 F ρ σ H) : ∀ vs : List Nat, R K F0 H0 F (wipeD ρ vs) (L2.wipe σ vs) H
  | [] => r
  | v :: vs => (R.wipes r vs).wipe
theorem sn_lc {A : RD} {wi : TI} {gt : TG} {tt : TT} {te : TE} {is vs : List Nat} {g : DE → Option (List D)} {h : D → DE → Option DE} {gb : DE → Option Bool} {ge : DE → Option D} (hi : Sil K A wi g) (hg : Sg K A is gt h) (his : ∀ i ∈ is, i ∈ vs) (ht : Stt K tt gb) (he : Sd K te ge) :
    Sn K (tLc wi gt tt te vs) (eLc vs g h gb ge) := fun F0 H0 F ρ σ H out r hgd Q q => by
  obtain ⟨ds, h1, h2⟩ := bindSome hgd
  obtain ⟨ds', h3, h4⟩ := bindSome h1
  obtain ⟨rfl, hline⟩ := lineOk_some h4
  refine hi F0 H0 F ρ σ H ds r h3 _ fun J F1 H1 ex y Dn hD => ?_
  have base : ∀ {H}, Same H1 H → Same H1 H := id
  refine ⟨fun i m H => m = ds.length - i ∧ i ≤ ds.length ∧ ∃ F vs' ys rest, Ext F1 H1 F H ∧ H Dn = some (.lst vs') ∧ F Dn = none ∧ DpAll K F vs' ys ∧ vs'.length ≤ i ∧ compD h gb ge (wipeD ρ vs) (ds.drop i) = some rest ∧ ys ++ rest = out,
    ⟨ds.length, by omega, Nat.zero_le _, F1, [], [], out, Ext.loose ex.i hD, upd_same, ex.i.free hD, .nil, Nat.le_refl _, h2, rfl⟩, fun i m H2 hW => ?_⟩
  obtain ⟨rfl, hi2, F2, ws, ys, rest, ex2, hd2, fd2, al2, hl2, hc2, ho2⟩ := hW
  obtain ⟨y1, y2⟩ := y i F2 H2 ex2.f ex2.i ex2.h
  by_cases hl : i < ds.length
  · obtain ⟨go, yl⟩ := y1 _ (List.getElem?_eq_getElem hl)
    rw [List.drop_eq_getElem_cons hl] at hc2
    refine .inr ⟨go, fun H => i + 1 ≤ ds.length ∧ ∃ F vs' ys rest, Ext F1 H1 F H ∧ H Dn = some (.lst vs') ∧ F Dn = none ∧ DpAll K F vs' ys ∧ vs'.length ≤ i + 1 ∧ compD h gb ge (wipeD ρ vs) (ds.drop (i + 1)) = some rest ∧ ys ++ rest = out,
      fun H' hN => ⟨ds.length - (i + 1), by omega, rfl, hN⟩, fun x H' hy => ?_⟩
    obtain ⟨F3, ex3, dp⟩ := yl x H' hy
    unfold compD at hc2
    obtain ⟨ρ1, e1, hc3⟩ := bindSome hc2
    obtain ⟨b, e2, hc4⟩ := bindSome hc3
    have r3 : R K F0 H0 F3 (wipeD ρ vs) (L2.wipe σ vs) H' := ((r.ext ex).ext (ex2.trans ex3)).wipes vs
    refine hg F0 H0 F3 _ ρ1 _ H' x _ r3 dp e1 _ fun σ4 r4 w4 => ⟨?_, ?_⟩
    · rw [w4 vs his]
      exact wipe_wipe σ vs
    refine ht F0 H0 F3 ρ1 σ4 H' b r4 e2 _ fun F5 H5 ex5 => ?_
    cases b with
    | true =>
      rw [if_pos rfl] at hc4 ⊢
      obtain ⟨z, e3, hc5⟩ := bindSome hc4
      obtain ⟨zs, e4, hc6⟩ := bindSome hc5
      cases hc6
      refine he F0 H0 F5 ρ1 σ4 H5 z (r4.ext ex5) e3 _ fun v F6 H6 ex6 dp6 => ?_
      have exx : Ext F2 H2 F6 H6 := (ex3.trans ex5).trans ex6
      have hd6 : H6 Dn = some (.lst ws) := exx.h _ _ hd2
      have fd6 : F6 Dn = none := exx.n _ fd2 (by rw [hd2]; exact fun z => nomatch z)
      refine ⟨ws, hd6, by have : ds.length ≤ sizeLine := hline; omega, hl, F6, ws ++ [v], ys ++ [z], zs, ?_, upd_same, fd6, DpAll.append (DpAll.mono exx.f al2) (.cons dp6 .nil), by rw [List.length_append]; simp; omega, e4, by rw [← ho2, List.append_assoc]; rfl⟩
      have ex7 := ex2.trans exx
      refine ⟨fun b o hb => ?_, ex7.f, fun b o hb => ?_, ex7.n⟩
      · rw [upd_ne (ne_of_none hb hD)]; exact ex7.h _ _ hb
      · rw [upd_ne (ne_of_none hb fd6)]; exact ex7.i _ _ hb
    | false =>
      rw [if_neg Bool.false_ne_true] at hc4 ⊢
      have exx : Ext F2 H2 F5 H5 := ex3.trans ex5
      exact ⟨hl, F5, ws, ys, rest, ex2.trans exx, exx.h _ _ hd2, exx.n _ fd2 (by rw [hd2]; exact fun z => nomatch z), DpAll.mono exx.f al2, by omega, hc4, ho2⟩
  · have e : i = ds.length := by omega
    subst e
    rw [List.drop_length] at hc2
    cases hc2
    rw [List.append_nil] at ho2
    subst ho2
    exact .inl ⟨y2 (List.getElem?_eq_none_iff.mpr (Nat.le_refl _)), q Dn ws F2 H2 (ex.trans ex2) hd2 (ex.h.free hD) fd2 al2⟩
where
  wipe_wipe (σ : L2.St) : ∀ vs : List Nat, wipe (wipe σ vs) vs = wipe σ vs := by
    have aux : ∀ (vs ws : List Nat), (∀ v ∈ ws, v ∈ vs) → wipe (wipe σ ws) vs = wipe σ vs := by
      intro vs ws
      induction ws with
      | nil => intro _; rfl
      | cons w ws ih =>
        intro hw
        show wipe ((wipe σ ws).set w none) vs = wipe σ vs
        rw [wipe_mem (hw w List.mem_cons_self), ih fun v hv => hw v (List.mem_cons_of_mem _ hv)]
    exact fun vs => aux vs vs fun _ h => h
variable {A : RD} {elt tg iter : Expr} {ifs : List Expr} {scope : Scope} {own : List (Str × Nat)} {wi : TI} {gt : TG} {tt : TT} {te : TE} {is : List Nat} {g : DE → Option (List D)} {h : D → DE → Option DE} {gb : DE → Option Bool} {ge : DE → Option D}
theorem pn_lc (hc : X.calm = true) (hN : X.N.Nodup) (hi : PIl K A X tg iter wi g) (ok : BlkOk X.N X.env.scope scope own)
    (hg : ∀ (s : Shared) (H : Hp) (C : Addr) (cl : List (Str × Addr)) (fp : List Addr), PGd K A (X.blk s H scope (compEnvC scope cl C X.env) fp) is tg gt h) (ht : ∀ (s : Shared) (H : Hp) (C : Addr) (cl : List (Str × Addr)) (fp : List Addr), PTsd K (X.blk s H scope (compEnvC scope cl C X.env) fp) ifs tt gb)
    (he : ∀ (s : Shared) (H : Hp) (C : Addr) (cl : List (Str × Addr)) (fp : List Addr), PD K (X.blk s H scope (compEnvC scope cl C X.env) fp) elt te ge) (his : ∀ i ∈ is, i ∈ own.map (·.2) := by decide) (hs : ∀ x, foldedSetIterable iter X.env x = pure x := by intro _; rfl) :
    PN K X (.ListComp elt [⟨tg, iter, ifs, 0⟩] scope pos) (tLc wi gt tt te (own.map (·.2))) (eLc (own.map (·.2)) g h gb ge) :=
  ⟨fun k => pe_lc hc hN (hi.pi k) ok (fun s H C cl fp => (hg s H C cl fp).pg k) (fun s H C cl fp => (ht s H C cl fp).pt k) (fun s H C cl fp => (he s H C cl fp).pe k) hs,
   sn_lc hi.ok (hg X.s_0 X.H_0 0 [] []).ok his (ht X.s_0 X.H_0 0 [] []).ok (he X.s_0 X.H_0 0 [] []).ok⟩
/-- name = [..] on one line, the name a local: a fixed datum; a list of one's own -/
theorem psd_setLc {i : Nat} {y : Str} {py spos : Pos} (hc : X.calm = true) (hN : X.N.Nodup) (hi : PIl K A X tg iter wi g) (ok : BlkOk X.N X.env.scope scope own)
    (hg : ∀ (s : Shared) (H : Hp) (C : Addr) (cl : List (Str × Addr)) (fp : List Addr), PGd K A (X.blk s H scope (compEnvC scope cl C X.env) fp) is tg gt h) (ht : ∀ (s : Shared) (H : Hp) (C : Addr) (cl : List (Str × Addr)) (fp : List Addr), PTsd K (X.blk s H scope (compEnvC scope cl C X.env) fp) ifs tt gb)
    (he : ∀ (s : Shared) (H : Hp) (C : Addr) (cl : List (Str × Addr)) (fp : List Addr), PD K (X.blk s H scope (compEnvC scope cl C X.env) fp) elt te ge)
    (hsw : swapsWith (.ListComp elt [⟨tg, iter, ifs, 0⟩] scope pos) (some (.Name y py)) spos.line X.env = pure true) (hy : X.N[i]? = some y := by rfl) (hyl : X.env.scope.names.lookup y = some .local := by rfl)
    (his : ∀ i ∈ is, i ∈ own.map (·.2) := by decide) (hs : ∀ x, foldedSetIterable iter X.env x = pure x := by intro _; rfl) :
    PSd K X W (.Assign [.Name y py] (.ListComp elt [⟨tg, iter, ifs, 0⟩] scope pos) spos) (tAsg (tLc wi gt tt te (own.map (·.2))) (gName i)) (sSet i (eOfL (eLc (own.map (·.2)) g h gb ge))) :=
  ⟨fun k => ps_setLc hc hN hy hyl hsw (hi.pi k) ok (fun s H C cl fp => (hg s H C cl fp).pg k) (fun s H C cl fp => (ht s H C cl fp).pt k) (fun s H C cl fp => (he s H C cl fp).pe k) hs, fun F0 H0 F ρ σ H E r p => by
    have hsd : Sd K (tLc wi gt tt te (own.map (·.2))) (eOfL (eLc (own.map (·.2)) g h gb ge)) := (pn_lc (K := K) (pos := pos) hc hN hi ok hg ht he his hs).d.ok
    refine ss_asg (W := W) hsd (sg_name i) F0 H0 F ρ σ H E r ?_
    unfold sSet at p
    cases hd : eOfL (eLc (own.map (·.2)) g h gb ge) ρ with
    | none => rw [hd] at p; exact p.elim
    | some d => rw [hd] at p; show Post K W F0 H0 E (match (eOfL (eLc (own.map (·.2)) g h gb ge) ρ).bind fun d => hName i d ρ with | some ρ' => .nx ρ' | none => .bad); rw [hd]; exact p⟩
theorem psd_ownLc {i : Nat} {y : Str} {py spos : Pos} (hc : X.calm = true) (hN : X.N.Nodup) (hi : PIl K A X tg iter wi g) (ok : BlkOk X.N X.env.scope scope own)
    (hg : ∀ (s : Shared) (H : Hp) (C : Addr) (cl : List (Str × Addr)) (fp : List Addr), PGd K A (X.blk s H scope (compEnvC scope cl C X.env) fp) is tg gt h) (ht : ∀ (s : Shared) (H : Hp) (C : Addr) (cl : List (Str × Addr)) (fp : List Addr), PTsd K (X.blk s H scope (compEnvC scope cl C X.env) fp) ifs tt gb)
    (he : ∀ (s : Shared) (H : Hp) (C : Addr) (cl : List (Str × Addr)) (fp : List Addr), PD K (X.blk s H scope (compEnvC scope cl C X.env) fp) elt te ge)
    (hsw : swapsWith (.ListComp elt [⟨tg, iter, ifs, 0⟩] scope pos) (some (.Name y py)) spos.line X.env = pure true) (hy : X.N[i]? = some y := by rfl) (hyl : X.env.scope.names.lookup y = some .local := by rfl)
    (his : ∀ i ∈ is, i ∈ own.map (·.2) := by decide) (hs : ∀ x, foldedSetIterable iter X.env x = pure x := by intro _; rfl) :
    PSd K X W (.Assign [.Name y py] (.ListComp elt [⟨tg, iter, ifs, 0⟩] scope pos) spos) (tAsg (tLc wi gt tt te (own.map (·.2))) (gName i)) (sOwn i (eLc (own.map (·.2)) g h gb ge)) :=
  ⟨fun k => ps_setLc hc hN hy hyl hsw (hi.pi k) ok (fun s H C cl fp => (hg s H C cl fp).pg k) (fun s H C cl fp => (ht s H C cl fp).pt k) (fun s H C cl fp => (he s H C cl fp).pe k) hs,
   ss_own (pn_lc (K := K) (pos := pos) hc hN hi ok hg ht he his hs).ok⟩

/-! ### a list of one's own: fixed for good; changed -/
def fzD (j : Nat) : DE → DE := fun ρ => match ρ[j]? with
  | some (.own ds) => ρ.set j (.dat (.list ds))
  | _ => ρ
def sFz (j : Nat) (g : DS) : DS := fun ρ => g (fzD j ρ)
theorem R.fz (r : R K F0 H0 F ρ σ H) (j : Nat) : ∃ F', R K F0 H0 F' (fzD j ρ) σ H := by
  unfold fzD
  split
  · rename_i ds e1
    obtain ⟨o, e2, a, vs, rfl, ha, al, fn, hz⟩ := r.get e1
    have sm : Same F (upd F a (.lst vs)) := same_upd fn
    refine ⟨upd F a (.lst vs), by simp [r.len], r.s0, fun b o hb => ?_, r.f0.trans sm, fun b hb gb => ?_, fun i x o h1 h2 => ?_, fun i k c es fs hn h1 m1 h2 m2 h3 h4 => ?_⟩
    · by_cases z : b = a
      · subst z; rw [upd_same] at hb; cases hb; exact ha
      · rw [upd_ne z] at hb; exact r.f _ _ hb
    · rw [upd_ne (fun z => by subst z; exact gb hz)]
      exact r.nw b hb gb
    · rcases getSet h1 with ⟨e, rfl⟩ | ⟨e, g1⟩
      · subst e
        rw [e2] at h2
        cases h2
        exact ⟨_, rfl, .lst (SqL.of upd_same) (DpAll.mono sm al)⟩
      · have := r.vs i x o g1 h2
        cases x with
        | bot => trivial
        | raw v => exact this
        | dat d => obtain ⟨v, q1, q2⟩ := this; exact ⟨v, q1, Dp.mono sm q2⟩
        | own es =>
          obtain ⟨b, ws, rfl, hb, al2, fn2, hz2⟩ := this
          refine ⟨b, ws, rfl, hb, DpAll.mono sm al2, ?_, hz2⟩
          rw [upd_ne (fun z => by subst z; exact r.ap j i _ _ _ e e1 rfl g1 rfl e2 h2)]
          exact fn2
        | dct es =>
          obtain ⟨b, ws, rfl, hb, al2, fn2, hz2⟩ := this
          refine ⟨b, ws, rfl, hb, DctAll.mono sm al2, ?_, hz2⟩
          rw [upd_ne (fun z => by subst z; exact r.ap j i _ _ _ e e1 rfl g1 rfl e2 h2)]
          exact fn2
    · rcases getSet h1 with ⟨_, rfl⟩ | ⟨_, g1⟩
      · cases m1
      rcases getSet h2 with ⟨_, rfl⟩ | ⟨_, g2⟩
      · cases m2
      exact r.ap i k c es fs hn g1 m1 g2 m2 h3 h4
  · exact ⟨F, r⟩
/-- ahead of a statement the list at slot j is fixed for good -/
theorem psd_fz (j : Nat) {s : Stmt} {t : TS} {g : DS} (h : PSd K X W s t g) : PSd K X W s t (sFz j g) := ⟨h.ps, fun F0 H0 F ρ σ H E r p => by
  obtain ⟨F', r'⟩ := r.fz j
  exact h.ok F0 H0 F' _ σ H E r' p⟩
theorem pssd_fz (j : Nat) {s : List Stmt} {t : TS} {g : DS} (h : PSsd K X W s t g) : PSsd K X W s t (sFz j g) := ⟨h.ps, fun F0 H0 F ρ σ H E r p => by
  obtain ⟨F', r'⟩ := r.fz j
  exact h.ok F0 H0 F' _ σ H E r' p⟩
/-- the thing at slot i is another of its kind, at the same place -/
theorem R.putM (r : R K F0 H0 F ρ σ H) {i : Nat} {x y : DV} {a : Addr} {u : HO} (h1 : ρ[i]? = some x) (m1 : x.mut = true) (h2 : σ[i]? = some (some (V.ref a))) (my : y.mut = true) (hy : RV K H0 F (upd H a u) y (some (V.ref a))) : R K F0 H0 F (ρ.set i y) σ (upd H a u) := by
  obtain ⟨b, o, e2, ha, fn, hz⟩ := r.mutAt h1 m1
  rw [h2] at e2
  cases e2
  refine ⟨by simp [r.len], fun b o hb => ?_, fun b o hb => ?_, r.f0, r.nw, fun j z o g1 g2 => ?_, fun j k c xs ys hn g1 n1 g2 n2 g3 g4 => ?_⟩
  · rw [upd_ne (ne_of_none hb hz)]; exact r.s0 _ _ hb
  · rw [upd_ne (ne_of_none hb fn)]; exact r.f _ _ hb
  · rcases getSet g1 with ⟨e, rfl⟩ | ⟨e, q1⟩
    · subst e
      rw [h2] at g2
      cases g2
      exact hy
    · have := r.vs j z o q1 g2
      cases z with
      | bot => trivial
      | raw v => exact this
      | dat d => exact this
      | own xs =>
        obtain ⟨b, us, rfl, hb, al2, fn2, hz2⟩ := this
        refine ⟨b, us, rfl, ?_, al2, fn2, hz2⟩
        rw [upd_ne (fun z => by subst z; exact r.ap i j _ _ _ e h1 m1 q1 rfl h2 g2)]
        exact hb
      | dct xs =>
        obtain ⟨b, us, rfl, hb, al2, fn2, hz2⟩ := this
        refine ⟨b, us, rfl, ?_, al2, fn2, hz2⟩
        rw [upd_ne (fun z => by subst z; exact r.ap i j _ _ _ e h1 m1 q1 rfl h2 g2)]
        exact hb
  · have hj : ∃ xs', ρ[j]? = some xs' ∧ xs'.mut = true := by
      rcases getSet g1 with ⟨e, _⟩ | ⟨_, q1⟩
      · subst e; exact ⟨_, h1, m1⟩
      · exact ⟨_, q1, n1⟩
    have hk : ∃ xs', ρ[k]? = some xs' ∧ xs'.mut = true := by
      rcases getSet g2 with ⟨e, _⟩ | ⟨_, q1⟩
      · subst e; exact ⟨_, h1, m1⟩
      · exact ⟨_, q1, n2⟩
    obtain ⟨_, q1, w1⟩ := hj
    obtain ⟨_, q2, w2⟩ := hk
    exact r.ap j k c _ _ hn q1 w1 q2 w2 g3 g4
/-- the list at slot i holds other items -/
theorem R.put (r : R K F0 H0 F ρ σ H) {i : Nat} {ds es : List D} {a : Addr} {ws : List V} (h1 : ρ[i]? = some (.own ds)) (h2 : σ[i]? = some (some (V.ref a))) (al : DpAll K F ws es) : R K F0 H0 F (ρ.set i (.own es)) σ (upd H a (.lst ws)) := by
  obtain ⟨b, o, e2, ha, fn, hz⟩ := r.mutAt h1 rfl
  rw [h2] at e2
  cases e2
  exact r.putM h1 rfl h2 rfl ⟨a, ws, rfl, upd_same, al, fn, hz⟩
theorem own_get {ρ : DE} {i : Nat} {ds : List D} (h : eOwn i ρ = some ds) : ρ[i]? = some (.own ds) := by
  unfold eOwn at h
  split at h
  · cases h; assumption
  · cases h
variable {e : Expr}
/-- x.append(e) -/
theorem psd_app (i : Nat) {x : Str} {p1 apos cpos : Pos} {ge : DE → Option D} (he : PD K X e te ge) (hN : X.N[i]? = some x := by rfl) (hv : Vis X.env.scope x := by first | exact Or.inl rfl | exact Or.inr (Or.inl rfl) | exact Or.inr (Or.inr rfl)) (hd : (x == ("__debug__" : Str)) = false := by decide)
    (hcd : (x == ("__classdict__" : Str)) = false := by decide) (hline : (apos.endLine == cpos.line) = true := by rfl) (hst : starEach [e] X.env = (false, eval e X.env) :: starEach [] X.env := by rfl)
    (hbase : attributeBase (.Name x p1) "append" X.env (eval (.Name x p1) X.env) = eval (.Name x p1) X.env := by rfl)
    (hfew : ((backTo cpos (starEach [e] X.env)).all (fun x => !x.1) && (backToKw cpos (keywordEach [] X.env)).all (fun x => x.1.isSome)
      && decide (([e] : List Expr).length + ([] : List Keyword).length + (if ([] : List Keyword).isEmpty then 0 else 1) < 30)) = true := by rfl)
    (hplain : (backTo cpos (starEach [] X.env)).any (·.1) = false := by rfl) (hs : swapsWith (.Call (.Attribute (.Name x p1) "append" apos) [e] [] cpos) none pos.line X.env = pure false := by rfl) :
    PSd K X W (.Expr (.Call (.Attribute (.Name x p1) "append" apos) [e] [] cpos) pos) (tDrop (tBM K "list" rAppend (tVar i) (tCons te tNil))) (sApp i ge) :=
  ⟨fun k => ps_expr (by rw [← k]; exact pe_bm PySem.F.plainAttrs_list PySem.F.slot_list_append PySem.F.type_list_append mt_append (pe_var hN hv hd hcd) (pa_cons (he.pe k) pa_nil hst) hbase hfew hline hst hplain) hs, fun F0 H0 F ρ σ H E r p => by
    unfold sApp at p
    cases h1 : ge ρ with
    | none => simp only [h1] at p; exact p.elim
    | some d =>
      simp only [h1] at p
      cases h2 : ρ[i]? with
      | none => simp only [h2] at p; exact p.elim
      | some x =>
        cases x with
        | bot => simp only [h2] at p; exact p.elim
        | dat d => simp only [h2] at p; exact p.elim
        | dct d => simp only [h2] at p; exact p.elim
        | raw d => simp only [h2] at p; exact p.elim
        | own ds =>
          simp only [h2] at p
          split at p
          · rename_i hlen
            obtain ⟨o, e2, a, vs, rfl, ha, al, fn, hz⟩ := r.get h2
            refine ⟨.ref a, e2, .inl ⟨rfl, _, SqL.of ha⟩, ?_⟩
            refine he.ok F0 H0 F ρ σ H d r h1 _ fun v F1 H1 ex dp => ?_
            have r1 := r.ext ex
            refine ⟨a, vs, v, rfl, rfl, ex.h _ _ ha, by rw [DpAll.length al, sizeLine_eq]; exact hlen, ?_⟩
            exact p F1 σ _ (r1.put h2 e2 (DpAll.append (DpAll.mono ex.f al) (.cons dp .nil)))
          · exact p.elim⟩
/-- x.extend(a new list) -/
def sExt (i : Nat) (g : DE → Option (List D)) : DS := fun ρ => match g ρ with
  | some es => match ρ[i]? with
    | some (.own ds) => if ds.length + es.length ≤ 16777216 then .nx (ρ.set i (.own (ds ++ es))) else .bad
    | _ => .bad
  | none => .bad
theorem psd_ext (i : Nat) {x : Str} {p1 apos cpos : Pos} {ge : DE → Option (List D)} (he : PN K X e te ge) (hN : X.N[i]? = some x := by rfl) (hv : Vis X.env.scope x := by first | exact Or.inl rfl | exact Or.inr (Or.inl rfl) | exact Or.inr (Or.inr rfl)) (hd : (x == ("__debug__" : Str)) = false := by decide)
    (hcd : (x == ("__classdict__" : Str)) = false := by decide) (hline : (apos.endLine == cpos.line) = true := by rfl) (hst : starEach [e] X.env = (false, eval e X.env) :: starEach [] X.env := by rfl)
    (hbase : attributeBase (.Name x p1) "extend" X.env (eval (.Name x p1) X.env) = eval (.Name x p1) X.env := by rfl)
    (hfew : ((backTo cpos (starEach [e] X.env)).all (fun z => !z.1) && (backToKw cpos (keywordEach [] X.env)).all (fun z => z.1.isSome) && decide (([e] : List Expr).length + ([] : List Keyword).length + (if ([] : List Keyword).isEmpty then 0 else 1) < 30)) = true := by rfl)
    (hplain : (backTo cpos (starEach [] X.env)).any (·.1) = false := by rfl) (hs : swapsWith (.Call (.Attribute (.Name x p1) "extend" apos) [e] [] cpos) none pos.line X.env = pure false := by rfl) :
    PSd K X W (.Expr (.Call (.Attribute (.Name x p1) "extend" apos) [e] [] cpos) pos) (tDrop (tBM K "list" rExtend (tVar i) (tCons te tNil))) (sExt i ge) :=
  ⟨fun k => ps_expr (by rw [← k]; exact pe_bm PySem.F.plainAttrs_list PySem.F.slot_list_extend PySem.F.type_list_extend mt_extend (pe_var hN hv hd hcd) (pa_cons (he.pe k) pa_nil hst) hbase hfew hline hst hplain) hs, fun F0 H0 F ρ σ H E r p => by
    unfold sExt at p
    cases h1 : ge ρ with
    | none => simp only [h1] at p; exact p.elim
    | some es =>
      simp only [h1] at p
      split at p
      · rename_i ds h2
        split at p
        · rename_i hlen
          obtain ⟨o, e2, a, vs, rfl, ha, al, fn, hz⟩ := r.get h2
          refine ⟨.ref a, e2, .inl ⟨rfl, _, SqL.of ha⟩, ?_⟩
          refine he.ok F0 H0 F ρ σ H es r h1 _ fun b ws F1 H1 ex hb hn fb al2 => ?_
          have r1 := r.ext ex
          refine ⟨a, b, vs, ws, rfl, rfl, ex.h _ _ ha, hb, by rw [DpAll.length al, DpAll.length al2, sizeLine_eq]; exact hlen, ?_⟩
          exact p F1 σ _ (r1.put h2 e2 (DpAll.append (DpAll.mono ex.f al) al2))
        · exact p.elim
      · exact p.elim⟩
/-- x.append(y.pop(e)) -/
def sAppPop (i j : Nat) (g : DE → Option D) : DS := fun ρ => match (g ρ).bind asI with
  | some k => match ρ[i]?, ρ[j]? with
    | some (.own ds), some (.own es) => match ixN es.length k with
      | some n => match es[n]? with
        | some d => if ds.length < 16777216 ∧ es.length < 9223372036854775808 then .nx ((ρ.set j (.own (es.eraseIdx n))).set i (.own (ds ++ [d]))) else .bad
        | none => .bad
      | none => .bad
    | _, _ => .bad
  | none => .bad
theorem psd_apppop (i j : Nat) (hij : i ≠ j) {x y : Str} {p1 p2 apos apos2 cpos cpos2 : Pos} {ge : DE → Option D} (he : PD K X e te ge) (hN : X.N[i]? = some x := by rfl) (hv : Vis X.env.scope x := by first | exact Or.inl rfl | exact Or.inr (Or.inl rfl) | exact Or.inr (Or.inr rfl)) (hd : (x == ("__debug__" : Str)) = false := by decide)
    (hcd : (x == ("__classdict__" : Str)) = false := by decide) (hN2 : X.N[j]? = some y := by rfl) (hv2 : Vis X.env.scope y := by first | exact Or.inl rfl | exact Or.inr (Or.inl rfl) | exact Or.inr (Or.inr rfl)) (hd2 : (y == ("__debug__" : Str)) = false := by decide)
    (hcd2 : (y == ("__classdict__" : Str)) = false := by decide) (hline : (apos.endLine == cpos.line) = true := by rfl) (hline2 : (apos2.endLine == cpos2.line) = true := by rfl)
    (hst2 : starEach [e] X.env = (false, eval e X.env) :: starEach [] X.env := by rfl)
    (hst : starEach [.Call (.Attribute (.Name y p2) "pop" apos2) [e] [] cpos2] X.env = (false, eval (.Call (.Attribute (.Name y p2) "pop" apos2) [e] [] cpos2) X.env) :: starEach [] X.env := by rfl)
    (hbase : attributeBase (.Name x p1) "append" X.env (eval (.Name x p1) X.env) = eval (.Name x p1) X.env := by rfl) (hbase2 : attributeBase (.Name y p2) "pop" X.env (eval (.Name y p2) X.env) = eval (.Name y p2) X.env := by rfl)
    (hfew : ((backTo cpos (starEach [.Call (.Attribute (.Name y p2) "pop" apos2) [e] [] cpos2] X.env)).all (fun x => !x.1) && (backToKw cpos (keywordEach [] X.env)).all (fun x => x.1.isSome)
      && decide (([Expr.Call (.Attribute (.Name y p2) "pop" apos2) [e] [] cpos2] : List Expr).length + ([] : List Keyword).length + (if ([] : List Keyword).isEmpty then 0 else 1) < 30)) = true := by rfl)
    (hfew2 : ((backTo cpos2 (starEach [e] X.env)).all (fun x => !x.1) && (backToKw cpos2 (keywordEach [] X.env)).all (fun x => x.1.isSome)
      && decide (([e] : List Expr).length + ([] : List Keyword).length + (if ([] : List Keyword).isEmpty then 0 else 1) < 30)) = true := by rfl)
    (hplain : (backTo cpos (starEach [] X.env)).any (·.1) = false := by rfl) (hplain2 : (backTo cpos2 (starEach [] X.env)).any (·.1) = false := by rfl) (hs : swapsWith (.Call (.Attribute (.Name x p1) "append" apos) [.Call (.Attribute (.Name y p2) "pop" apos2) [e] [] cpos2] [] cpos) none pos.line X.env = pure false := by rfl) :
    PSd K X W (.Expr (.Call (.Attribute (.Name x p1) "append" apos) [.Call (.Attribute (.Name y p2) "pop" apos2) [e] [] cpos2] [] cpos) pos) (tDrop (tBM K "list" rAppend (tVar i) (tCons (tBM K "list" rPopAt (tVar j) (tCons te tNil)) tNil))) (sAppPop i j ge) :=
  ⟨fun k => ps_expr (by
      have h2 : PE X (.Call (.Attribute (.Name y p2) "pop" apos2) [e] [] cpos2) (tBM X.K "list" rPopAt (tVar j) (tCons te tNil)) := pe_bm PySem.F.plainAttrs_list PySem.F.slot_list_pop PySem.F.type_list_pop mt_popAt (pe_var hN2 hv2 hd2 hcd2) (pa_cons (he.pe k) pa_nil hst2) hbase2 hfew2 hline2 hst2 hplain2
      rw [← k]
      exact pe_bm PySem.F.plainAttrs_list PySem.F.slot_list_append PySem.F.type_list_append mt_append (pe_var hN hv hd hcd) (pa_cons h2 pa_nil hst) hbase hfew hline hst hplain) hs, fun F0 H0 F ρ σ H E r p => by
    unfold sAppPop at p
    cases h1 : (ge ρ).bind asI with
    | none => simp only [h1] at p; exact p.elim
    | some k =>
      simp only [h1] at p
      obtain ⟨d0, h1a, h1b⟩ := bindSome h1
      have := asI_some h1b
      subst this
      split at p
      · rename_i ds es h2 h3
        split at p
        · rename_i n hn
          split at p
          · rename_i d hd
            split at p
            · rename_i hlen
              obtain ⟨o, e2, a, vs, rfl, ha, al, fn, hz⟩ := r.get h2
              obtain ⟨o2, e3, b, ws, rfl, hb, al2, fn2, hz2⟩ := r.get h3
              have hab : a ≠ b := fun z => by subst z; exact r.ap i j _ _ _ hij h2 rfl h3 rfl e2 e3
              refine ⟨.ref a, e2, .inl ⟨rfl, _, SqL.of ha⟩, ?_⟩
              refine ⟨.ref b, e3, .inl ⟨rfl, _, SqL.of hb⟩, ?_⟩
              refine he.ok F0 H0 F ρ σ H _ r h1a _ fun v F1 H1 ex dp => ?_
              cases dp
              have r1 := r.ext ex
              have hn' : ixN ws.length k = some n := by rw [DpAll.length al2]; exact hn
              obtain ⟨q1, q2, q3, q4⟩ := ixN_seq hn'
              obtain ⟨y, hy, dy⟩ := DpAll.get' (DpAll.mono ex.f al2) hd
              have wl : ws.length < 9223372036854775808 := by rw [DpAll.length al2]; exact hlen.2
              refine ⟨b, ws, k, n, y, rfl, rfl, ex.h _ _ hb, by omega, by omega, q1, hy, ?_⟩
              have r2 := r1.put h3 e3 (DpAll.eraseIdx n (DpAll.mono ex.f al2))
              refine ⟨a, vs, y, rfl, rfl, by rw [upd_ne hab]; exact ex.h _ _ ha, by rw [DpAll.length al, sizeLine_eq]; exact hlen.1, ?_⟩
              have h2' : (ρ.set j (.own (es.eraseIdx n)))[i]? = some (.own ds) := by rw [List.getElem?_set_ne (fun z => hij z.symm)]; exact h2
              exact p F1 σ _ (r2.put h2' e2 (DpAll.append (DpAll.mono ex.f al) (.cons dy .nil)))
            · exact p.elim
          · exact p.elim
        · exact p.elim
      · exact p.elim⟩
/-- x[i] = e -/
def sPut (i : Nat) (gi ge : DE → Option D) : DS := fun ρ => match ge ρ with
  | some d => match (gi ρ).bind asI with
    | some k => match ρ[i]? with
      | some (.own ds) => match ixN ds.length k with
        | some n => .nx (ρ.set i (.own (ds.set n d)))
        | none => .bad
      | _ => .bad
    | none => .bad
  | none => .bad
theorem psd_put (i : Nat) {x : Str} {p1 tpos : Pos} {ei : Expr} {ti : TE} {gi ge : DE → Option D} (he : PD K X e te ge) (hei : PD K X ei ti gi) (hN : X.N[i]? = some x := by rfl) (hv : Vis X.env.scope x := by first | exact Or.inl rfl | exact Or.inr (Or.inl rfl) | exact Or.inr (Or.inr rfl)) (hd : (x == ("__debug__" : Str)) = false := by decide)
    (hcd : (x == ("__classdict__" : Str)) = false := by decide) (hs : swapsWithSole [.Subscript (.Name x p1) ei tpos] e pos.line X.env = pure false := by rfl) (hw : swappedStores [.Subscript (.Name x p1) ei tpos] e X.env = pure none := by rfl)
    (h1 : (assignEach [.Subscript (.Name x p1) ei tpos] X.env).map (·.2) = [assign (.Subscript (.Name x p1) ei tpos) X.env] := by rfl)
    (ha : ∀ v, assign (.Subscript (.Name x p1) ei tpos) X.env v = (do
      let ov ← holding [v] (eval (.Name x p1) X.env)
      let iv ← holding [v, ov] (eval ei X.env)
      standAt tpos
      holding [v, ov, iv] (setItem ov iv v)
      release [v, ov, iv] []) := by intro _; rfl) : PSd K X W (.Assign [.Subscript (.Name x p1) ei tpos] e pos) (tAsg te (gSub (tVar i) ti rSetL)) (sPut i gi ge) :=
  ⟨fun k => ps_asg (he.pe k) (pg_sub (pe_var hN hv hd hcd) (hei.pe k) set_list ha) hs hw h1, fun F0 H0 F ρ σ H E r p => by
    unfold sPut at p
    cases h1 : ge ρ with
    | none => simp only [h1] at p; exact p.elim
    | some d =>
      simp only [h1] at p
      cases h2 : (gi ρ).bind asI with
      | none => simp only [h2] at p; exact p.elim
      | some k =>
        simp only [h2] at p
        obtain ⟨d0, h2a, h2b⟩ := bindSome h2
        have := asI_some h2b
        subst this
        split at p
        · rename_i ds h3
          split at p
          · rename_i n hn
            obtain ⟨o, e2, a, vs, rfl, ha, al, fn, hz⟩ := r.get h3
            refine he.ok F0 H0 F ρ σ H d r h1 _ fun v F1 H1 ex dp => ?_
            refine ⟨.ref a, e2, ?_⟩
            refine hei.ok F0 H0 F1 ρ σ H1 _ (r.ext ex) h2a _ fun v2 F2 H2 ex2 dp2 => ?_
            cases dp2
            have exx := ex.trans ex2
            refine ⟨a, vs, k, n, rfl, rfl, exx.h _ _ ha, by rw [DpAll.length al]; exact hn, ?_⟩
            exact p F2 σ _ ((r.ext exx).put h3 e2 (DpAll.set (Dp.mono ex2.f dp) n (DpAll.mono exx.f al)))
          · exact p.elim
        · exact p.elim⟩
end

/-! ### several names at once -/
/-- values that lie ready: fixed data, new things that may be changed -/
inductive MAll (K : PySem.W.Frag) (Hs F H : Hp) : List V → List DV → List Addr → Prop
  | nil : MAll K Hs F H [] [] []
  | dat {v : V} {d : D} {vs : List V} {xs : List DV} {as : List Addr} : Dp K F v d → MAll K Hs F H vs xs as → MAll K Hs F H (v :: vs) (.dat d :: xs) as
  | mut {a : Addr} {x : DV} {vs : List V} {xs : List DV} {as : List Addr} : x.mut = true → RV K Hs F H x (some (V.ref a)) → a ∉ as → MAll K Hs F H vs xs as → MAll K Hs F H (.ref a :: vs) (x :: xs) (a :: as)
def Sm (K : PySem.W.Frag) (t : TA) (g : DE → Option (List DV)) : Prop := ∀ (F0 H0 F : Hp) (ρ : DE) (σ : L2.St) (H : Hp) (xs : List DV), R K F0 H0 F ρ σ H → g ρ = some xs →
  ∀ Q : List V → Hp → Prop, (∀ vs as F' H', Ext F H F' H' → MAll K H F' H' vs xs as → Q vs H') → t σ H Q
structure PAm (K : PySem.W.Frag) (X : Cx) (es : List Expr) (t : TA) (g : DE → Option (List DV)) : Prop where
  pa : X.K = K → PA X es t
  ok : Sm K t g
def mNil : DE → Option (List DV) := fun _ => some []
def mDat (g : DE → Option D) (h : DE → Option (List DV)) : DE → Option (List DV) := fun ρ => (g ρ).bind fun d => (h ρ).bind fun xs => some (.dat d :: xs)
def mOwn (g : DE → Option (List D)) (h : DE → Option (List DV)) : DE → Option (List DV) := fun ρ => (g ρ).bind fun d => (h ρ).bind fun xs => some (.own d :: xs)
def setM : List Nat → List DV → DE → DE
  | i :: is, x :: xs, ρ => setM is xs (ρ.set i x)
  | _, _, ρ => ρ
def setS : List Nat → List V → L2.St → L2.St
  | i :: is, v :: vs, σ => setS is vs (σ.set i (some v))
  | _, _, σ => σ
def sPar (is : List Nat) (g : DE → Option (List DV)) : DS := fun ρ => match g ρ with
  | some xs => .nx (setM is xs ρ)
  | none => .bad
section
variable {K : PySem.W.Frag} {X : Cx} {W : WD} {F0 H0 F H F' H' Hs : Hp} {ρ : DE} {σ : L2.St} {pos : Pos}
theorem RV.lower {Hr : Hp} (s : Same Hr Hs) {x : DV} {o : Option V} (h : RV K Hs F H x o) : RV K Hr F H x o := by
  cases x with
  | bot => trivial
  | raw v => exact h
  | dat d => exact h
  | own ds => obtain ⟨a, vs, q, ha, al, n, z⟩ := h; exact ⟨a, vs, q, ha, al, n, s.free z⟩
  | dct ds => obtain ⟨a, vs, q, ha, al, n, z⟩ := h; exact ⟨a, vs, q, ha, al, n, s.free z⟩
theorem RV.at {x : DV} {a : Addr} (h : RV K Hs F H x (some (V.ref a))) (m : x.mut = true) : (∃ o, H a = some o) ∧ F a = none ∧ Hs a = none := by
  cases x with
  | bot => cases m
  | raw v => cases m
  | dat d => cases m
  | own ds => obtain ⟨b, vs, q, ha, al, n, z⟩ := h; cases q; exact ⟨⟨_, ha⟩, n, z⟩
  | dct ds => obtain ⟨b, vs, q, ha, al, n, z⟩ := h; cases q; exact ⟨⟨_, ha⟩, n, z⟩
theorem MAll.ext : ∀ {vs : List V} {xs : List DV} {as : List Addr}, MAll K Hs F H vs xs as → Ext F H F' H' → MAll K Hs F' H' vs xs as
  | _, _, _, .nil, _ => .nil
  | _, _, _, .dat h t, e => .dat (Dp.mono e.f h) (t.ext e)
  | _, _, _, .mut m h n t, e => .mut m (h.ext e) n (t.ext e)
theorem MAll.lower {Hr : Hp} (s : Same Hr Hs) : ∀ {vs : List V} {xs : List DV} {as : List Addr}, MAll K Hs F H vs xs as → MAll K Hr F H vs xs as
  | _, _, _, .nil => .nil
  | _, _, _, .dat h t => .dat h (t.lower s)
  | _, _, _, .mut m h n t => .mut m (RV.lower s h) n (t.lower s)
theorem MAll.new : ∀ {vs : List V} {xs : List DV} {as : List Addr}, MAll K Hs F H vs xs as → ∀ a ∈ as, Hs a = none
  | _, _, _, .nil => fun _ h => by cases h
  | _, _, _, .dat _ t => t.new
  | _, _, _, .mut m h _ t => fun b hb => by
    rcases List.mem_cons.mp hb with rfl | hb
    · exact (h.at m).2.2
    · exact t.new b hb
theorem pam_nil : PAm K X [] tNil mNil := ⟨fun _ => pa_nil, fun F0 H0 F ρ σ H ds r hg Q q => by cases hg; exact q [] [] F H (Ext.refl r.f) .nil⟩
theorem pam_dat {e : Expr} {es : List Expr} {t : TE} {ta : TA} {g : DE → Option D} {ga : DE → Option (List DV)} (h : PD K X e t g) (hr : PAm K X es ta ga) (hs : starEach (e :: es) X.env = (false, eval e X.env) :: starEach es X.env := by rfl) : PAm K X (e :: es) (tCons t ta) (mDat g ga) :=
  ⟨fun k => pa_cons (h.pe k) (hr.pa k) hs, fun F0 H0 F ρ σ H ds r hg Q q => by
    obtain ⟨d, h1, h2⟩ := bindSome hg
    obtain ⟨ds', h3, h4⟩ := bindSome h2
    cases h4
    refine h.ok F0 H0 F ρ σ H d r h1 _ fun v F1 H1 x1 d1 => ?_
    exact hr.ok F0 H0 F1 ρ σ H1 ds' (r.ext x1) h3 _ fun vs as F2 H2 x2 d2 => q (v :: vs) as F2 H2 (x1.trans x2) (.dat (Dp.mono x2.f d1) (d2.lower x1.h))⟩
theorem pam_own {e : Expr} {es : List Expr} {t : TE} {ta : TA} {g : DE → Option (List D)} {ga : DE → Option (List DV)} (h : PN K X e t g) (hr : PAm K X es ta ga) (hs : starEach (e :: es) X.env = (false, eval e X.env) :: starEach es X.env := by rfl) : PAm K X (e :: es) (tCons t ta) (mOwn g ga) :=
  ⟨fun k => pa_cons (h.pe k) (hr.pa k) hs, fun F0 H0 F ρ σ H ds r hg Q q => by
    obtain ⟨d, h1, h2⟩ := bindSome hg
    obtain ⟨ds', h3, h4⟩ := bindSome h2
    cases h4
    refine h.ok F0 H0 F ρ σ H d r h1 _ fun a ws F1 H1 x1 ha hn fn al => ?_
    refine hr.ok F0 H0 F1 ρ σ H1 ds' (r.ext x1) h3 _ fun vs as F2 H2 x2 d2 => q (.ref a :: vs) (a :: as) F2 H2 (x1.trans x2) (.mut rfl ⟨a, ws, rfl, x2.h _ _ ha, DpAll.mono x2.f al, x2.n _ fn (by rw [ha]; exact fun z => nomatch z), hn⟩ (fun hm => ?_) (d2.lower x1.h))
    have := d2.new a hm
    rw [ha] at this
    cases this⟩
theorem R.setM : ∀ {is : List Nat} {vs : List V} {xs : List DV} {as : List Addr} {ρ : DE} {σ : L2.St}, MAll K Hs F H vs xs as → Same H0 Hs → R K F0 H0 F ρ σ H → (∀ (j : Nat) y a, ρ[j]? = some y → y.mut = true → σ[j]? = some (some (V.ref a)) → a ∉ as) → R K F0 H0 F (DL.setM is xs ρ) (setS is vs σ) H
  | [], _, _, _, _, _, m, _, r, _ => by cases m <;> exact r
  | i :: is, _, _, _, _, _, .nil, _, r, _ => r
  | i :: is, _, _, _, ρ, σ, .dat h t, hz, r, fr => by
    refine R.setM (is := is) t hz (r.setD h) fun j y a h1 m1 h2 => ?_
    rcases getSet h1 with ⟨_, rfl⟩ | ⟨e1, g1⟩
    · cases m1
    rcases getSet h2 with ⟨e2, _⟩ | ⟨_, g2⟩
    · exact absurd e2 e1
    exact fr j y a g1 m1 g2
  | i :: is, _, _, _, ρ, σ, .mut (a := a) mx hx hn t, hz, r, fr => by
    refine R.setM (is := is) t hz (r.setM0 (RV.lower hz hx) fun j y g1 m1 g2 => fr j y a g1 m1 g2 List.mem_cons_self) fun j y b g1 m1 g2 hb => ?_
    rcases getSet g1 with ⟨e1, _⟩ | ⟨e1, q1⟩
    · rcases getSet g2 with ⟨_, z⟩ | ⟨e2, _⟩
      · cases z; exact hn hb
      · exact e2 e1
    · rcases getSet g2 with ⟨e2, _⟩ | ⟨_, q2⟩
      · exact e1 e2
      · exact fr j y b q1 m1 q2 (List.mem_cons_of_mem _ hb)
theorem R.setM' {is : List Nat} {vs : List V} {xs : List DV} {as : List Addr} (r : R K F0 H0 F ρ σ H) (ex : Ext F H F' H') (m : MAll K H F' H' vs xs as) : R K F0 H0 F' (DL.setM is xs ρ) (setS is vs σ) H' := by
  refine R.setM m r.s0 (r.ext ex) fun j y a h1 m1 h2 hm => ?_
  obtain ⟨b, o, e1, hb, _⟩ := r.mutAt h1 m1
  rw [e1] at h2
  cases h2
  have := m.new _ hm
  rw [hb] at this
  cases this
theorem mem2 {K : PySem.W.Frag} {Hs F H : Hp} {vs : List V} {xs : List DV} {as : List Addr} (m : MAll K Hs F H vs xs as) : vs.length = xs.length := by
  induction m with
  | nil => rfl
  | dat _ _ ih => simp [ih]
  | «mut» _ _ _ _ ih => simp [ih]
theorem psd_par {i j : Nat} {x y : Str} {a b : Expr} {ta : TA} {g : DE → Option (List DV)} {px py pt : Pos} {kt k2 pt2} (hc : X.calm = true) (hN : X.N.Nodup) (ha : PAm K X [a, b] ta g) (hl : ∀ ρ xs, g ρ = some xs → xs.length = 2) (hij : i ≠ j := by decide) (hi : X.N[i]? = some x := by rfl) (hj : X.N[j]? = some y := by rfl)
    (hx : X.env.scope.names.lookup x = some .local := by rfl) (hy : X.env.scope.names.lookup y = some .local := by rfl)
    (hw : swappedStores [.Tuple [.Name x px, .Name y py] kt pt] (.Tuple [a, b] k2 pt2) X.env = pure (some [x, y]) := by rfl)
    (hs : swapsWithSole [.Tuple [.Name x px, .Name y py] kt pt] (.Tuple [a, b] k2 pt2) pos.line X.env = pure false := by rfl) :
    PSd K X W (.Assign [.Tuple [.Name x px, .Name y py] kt pt] (.Tuple [a, b] k2 pt2) pos) (tPar i j ta) (sPar [i, j] g) := ⟨fun k => ps_par hc hN hi hj hij hx hy (ha.pa k) hw hs, fun F0 H0 F ρ σ H E r p => by
  unfold sPar at p
  cases hg : g ρ with
  | none => rw [hg] at p; exact p.elim
  | some xs =>
    rw [hg] at p
    refine ha.ok F0 H0 F ρ σ H xs r hg _ fun vs as F1 H1 ex m => ?_
    have hlv := (mem2 m).trans (hl ρ xs hg)
    match vs, hlv with
    | [v, w], _ => exact ⟨v, w, rfl, p F1 _ H1 (r.setM' (is := [i, j]) ex m)⟩⟩
theorem psd_par3 {i j l : Nat} {x y z : Str} {a b c : Expr} {ta : TA} {g : DE → Option (List DV)} {px py pz pt : Pos} {kt k2 pt2} (hc : X.calm = true) (hN : X.N.Nodup) (ha : PAm K X [a, b, c] ta g) (hl : ∀ ρ xs, g ρ = some xs → xs.length = 3) (hij : i ≠ j := by decide) (hil : i ≠ l := by decide) (hjl : j ≠ l := by decide) (hi : X.N[i]? = some x := by rfl) (hj : X.N[j]? = some y := by rfl) (hk : X.N[l]? = some z := by rfl)
    (hx : X.env.scope.names.lookup x = some .local := by rfl) (hy : X.env.scope.names.lookup y = some .local := by rfl) (hz : X.env.scope.names.lookup z = some .local := by rfl)
    (hw : swappedStores [.Tuple [.Name x px, .Name y py, .Name z pz] kt pt] (.Tuple [a, b, c] k2 pt2) X.env = pure (some [x, y, z]) := by rfl)
    (hs : swapsWithSole [.Tuple [.Name x px, .Name y py, .Name z pz] kt pt] (.Tuple [a, b, c] k2 pt2) pos.line X.env = pure false := by rfl) :
    PSd K X W (.Assign [.Tuple [.Name x px, .Name y py, .Name z pz] kt pt] (.Tuple [a, b, c] k2 pt2) pos) (tPar3 i j l ta) (sPar [i, j, l] g) := ⟨fun k => ps_par3 hc hN hi hj hk hij hil hjl hx hy hz (ha.pa k) hw hs, fun F0 H0 F ρ σ H E r p => by
  unfold sPar at p
  cases hg : g ρ with
  | none => rw [hg] at p; exact p.elim
  | some xs =>
    rw [hg] at p
    refine ha.ok F0 H0 F ρ σ H xs r hg _ fun vs as F1 H1 ex m => ?_
    have hlv := (mem2 m).trans (hl ρ xs hg)
    match vs, hlv with
    | [u, v, w], _ => exact ⟨u, v, w, rfl, p F1 _ H1 (r.setM' (is := [i, j, l]) ex m)⟩⟩
/-- the same where a name is a cell, or there are more than three: a tuple is made, then taken apart -/
def gNames : List Nat → TGs
  | [] => gNil
  | i :: is => gCons (gName i) (gNames is)
theorem gNames_run : ∀ {is : List Nat} {vs : List V} {σ : L2.St} {H : Hp} {Q : L2.St → Hp → Prop}, is.length = vs.length → Q (setS is vs σ) H → gNames is vs σ H Q
  | [], [], _, _, _, _, q => ⟨rfl, q⟩
  | i :: is, v :: vs, σ, H, Q, hl, q => ⟨v, vs, rfl, gNames_run (is := is) (by simpa using hl) q⟩
theorem psd_parT {ts es : List Expr} {kt k2 : Nat} {pt pt2 : Pos} {is : List Nat} {ta : TA} {g : DE → Option (List DV)} {n : Nat} (hc : X.calm = true) (ha : PAm K X es ta g) (hg : PGs X ts (gNames is)) (hl : ∀ ρ xs, g ρ = some xs → xs.length = is.length) (hn8 : is.length ≤ 1000 := by decide) (his : is.length = n := by rfl)
    (hn : (assignEach ts X.env).length = n := by rfl) (hst : (assignEach ts X.env).findIdx? (·.1) = none := by rfl)
    (hs : swapsWithSole [.Tuple ts kt pt] (.Tuple es k2 pt2) pos.line X.env = pure false := by rfl) (hw : swappedStores [.Tuple ts kt pt] (.Tuple es k2 pt2) X.env = pure none := by rfl)
    (h1 : (assignEach [.Tuple ts kt pt] X.env).map (·.2) = [assign (.Tuple ts kt pt) X.env] := by rfl) :
    PSd K X W (.Assign [.Tuple ts kt pt] (.Tuple es k2 pt2) pos) (tAsg (tTup ta) (gTup K n (gNames is))) (sPar is g) := ⟨fun k => by
      have := pg_tup (k := kt) (pos := pt) hc hg hn hst
      rw [k] at this
      exact ps_asg (L2.pe_tup (ha.pa k)) this hs hw h1, fun F0 H0 F ρ σ H E r p => by
  unfold sPar at p
  cases hg : g ρ with
  | none => rw [hg] at p; exact p.elim
  | some xs =>
    rw [hg] at p
    refine ha.ok F0 H0 F ρ σ H xs r hg _ fun vs as F1 H1 ex m => ?_
    have hlv := (mem2 m).trans (hl ρ xs hg)
    refine ⟨by rw [hlv, sizeLine_eq]; omega, fun q hq => ?_⟩
    have ex2 : Ext F1 H1 F1 (upd H1 q (.tup vs)) := Ext.loose ex.i hq
    exact ⟨q, vs, rfl, SqT.of upd_same, hlv.trans his, gNames_run hlv.symm (p F1 _ _ (r.setM' (is := is) (ex.trans ex2) (m.ext ex2)))⟩⟩
theorem mNil_len : ∀ ρ xs, mNil ρ = some xs → xs.length = 0 := fun _ _ h => by cases h; rfl
theorem mDat_len {g : DE → Option D} {h : DE → Option (List DV)} {n : Nat} (hh : ∀ ρ xs, h ρ = some xs → xs.length = n) : ∀ ρ xs, mDat g h ρ = some xs → xs.length = n + 1 := fun ρ xs e => by
  obtain ⟨_, _, e⟩ := bindSome e
  obtain ⟨_, e1, e⟩ := bindSome e
  cases e
  rw [List.length_cons, hh _ _ e1]
theorem mOwn_len {g : DE → Option (List D)} {h : DE → Option (List DV)} {n : Nat} (hh : ∀ ρ xs, h ρ = some xs → xs.length = n) : ∀ ρ xs, mOwn g h ρ = some xs → xs.length = n + 1 := fun ρ xs e => by
  obtain ⟨_, _, e⟩ := bindSome e
  obtain ⟨_, e1, e⟩ := bindSome e
  cases e
  rw [List.length_cons, hh _ _ e1]
end

/-! ### defs -/
def initD (n : Nat) (ds : List D) : DE := ds.map DV.dat ++ List.replicate (n - ds.length) DV.bot
def runD (n : Nat) (g : DS) (ds : List D) : Option D := match g (initD n ds) with
  | .ret d => some d
  | .nx _ => some .none
  | _ => none
section
variable {P : Program} {w : World} {K : PySem.W.Frag} {mg : Str → Option Value} {base : Heap}
theorem R.init {N : List Str} {F H : Hp} {vs : List V} {ds : List D} (s : Same F H) (al : DpAll K F vs ds) (hl : vs.length ≤ N.length) : R K F H F (initD N.length ds) (L2.start N vs) H := by
  have hlen := DpAll.length al
  refine ⟨by simp [initD, L2.start, hlen], Same.refl _, s, Same.refl _, fun b hb _ => hb, fun i x o h1 h2 => ?_, fun i j a x' es hn h1 m1 _ _ _ => ?_⟩
  · unfold initD at h1
    unfold L2.start at h2
    by_cases hi : i < vs.length
    · rw [List.getElem?_append_left (by rw [List.length_map, ← hlen]; exact hi), List.getElem?_map] at h1
      rw [List.getElem?_append_left (by rw [List.length_map]; exact hi), List.getElem?_map] at h2
      cases e1 : vs[i]? with
      | none => rw [e1] at h2; cases h2
      | some v =>
        obtain ⟨d, e2, dp⟩ := DpAll.get al e1
        rw [e1] at h2
        rw [e2] at h1
        cases h1
        cases h2
        exact ⟨v, rfl, dp⟩
    · rw [List.getElem?_append_right (by rw [List.length_map, ← hlen]; omega)] at h1
      have := List.mem_of_getElem? h1
      rw [List.eq_of_mem_replicate this]
      trivial
  · unfold initD at h1
    have := List.mem_of_getElem? h1
    rcases List.mem_append.mp this with h | h
    · obtain ⟨_, _, rfl⟩ := List.mem_map.mp h
      cases m1
    · rw [List.eq_of_mem_replicate h] at m1
      cases m1
abbrev W0 : WD := fun _ _ _ => False
theorem fn_ok {x qual : Str} {st : Stmt} {f : Addr} {fd : FuncData} {N ps : List Str} {k : Nat} {g : DS} {m : List D → Option D} (F : Fun K x qual st f fd) (S : FnScope N ps (defScope st)) (hp : ps.length ≤ N.length)
    (hb : ∀ (cdv : Value) (A : Around) (outer : List Env) (s : Shared) (H : Hp) (E : XK), Room k (A.deeper (PyProof.Rows.envOfC qual (defScope st) s.heap.objs.size f cdv)) →
      ∃ t, PSsd K (cxOf CX0 P w K mg base N qual (defScope st) f cdv A outer s H E).nox W0 (defBody st) t g) (hm : ∀ ds, m ds = runD N.length g ds) :
    FnOk P w K mg base CX0 (k + 1) f fd ps (spD K m ps.length) := by
  refine F.ok S (fun vs H Q E h => h.1) (fun cdv A outer s H vs Q E hr h => ?_)
  obtain ⟨hl, F1, ds, d, sm, al, hd, q⟩ := h
  obtain ⟨t, ht⟩ := hb cdv A outer s H E hr
  refine ⟨t, ht.ps rfl, ht.ok F1 H F1 _ _ H _ (R.init sm al (by rw [hl]; exact hp)) ?_⟩
  rw [hm] at hd
  unfold runD at hd
  revert hd
  cases g (initD N.length ds) with
  | nx ρ =>
    intro hd F2 σ2 H2 r2
    cases hd
    exact q .non F2 H2 r2.toExt .non
  | ret d' =>
    intro hd v F2 H2 ex dp
    cases hd
    exact q v F2 H2 ex dp
  | brk _ => exact fun hd => nomatch hd
  | cnt _ => exact fun hd => nomatch hd
  | err _ _ => exact fun hd => nomatch hd
  | bad => exact fun hd => nomatch hd
end
end DL

namespace DL
open PySem PySem.Spec L2

/-! ### flat data -/
def flatD : D → Bool
  | .none => true
  | .bool _ => true
  | .int _ => true
  | .str _ => true
  | _ => false
def toV : D → V
  | .bool b => .bl b
  | .int i => .int i
  | .str x => .str x
  | _ => .non
section
variable {K : PySem.W.Frag} {H : Hp}
theorem flat_one {v : V} {d : D} (h : Dp K H v d) (f : flatD d = true) : v = toV d ∧ flatV v = true := by
  cases h <;> first | exact ⟨rfl, rfl⟩ | cases f
theorem flat_all : ∀ {vs : List V} {ds : List D}, DpAll K H vs ds → ds.all flatD = true → vs = ds.map toV ∧ vs.all flatV = true
  | _, _, .nil, _ => ⟨rfl, rfl⟩
  | _, _, .cons h t, f => by
    rw [List.all_cons, Bool.and_eq_true] at f
    obtain ⟨e1, f1⟩ := flat_one h f.1
    obtain ⟨e2, f2⟩ := flat_all t f.2
    refine ⟨by rw [List.map_cons, ← e1, ← e2], by rw [List.all_cons, f1, f2]; rfl⟩
theorem eqV_toV {a b : D} (fa : flatD a = true) (fb : flatD b = true) : eqV (toV a) (toV b) = PyData.eqv a b := by
  cases a <;> simp only [flatD] at fa <;> first
    | (exact absurd fa Bool.false_ne_true)
    | (cases b <;> simp only [flatD] at fb <;> first | (exact absurd fb Bool.false_ne_true) | rfl | simp [toV, eqV, PyData.eqv])
end

/-! ### ints -/
def dSub (d e : D) : Option D := match d, e with
  | .int i, .int j => some (.int (i - j))
  | _, _ => none
def dMod (d e : D) : Option D := match d, e with
  | .int i, .int j => if 0 < j then some (.int (i % j)) else none
  | _, _ => none
def dDiv (d e : D) : Option D := match d, e with
  | .int i, .int j => if 0 < j ∧ j < 2 ^ 100 then some (.int (i / j)) else none
  | _, _ => none
def dPow (d e : D) : Option D := match d, e with
  | .int i, .int j => if (0 ≤ j ∧ j ≤ 1000) ∧ i.natAbs < 2 ^ 64 then some (.int (i ^ j.toNat)) else none
  | _, _ => none
def dNeg : D → Option D
  | .int i => some (.int (-i))
  | _ => none
def dLt (d e : D) : Option Bool := match d, e with
  | .int i, .int j => some (decide (i < j))
  | _, _ => none
def dLe (d e : D) : Option Bool := match d, e with
  | .int i, .int j => some (decide (i ≤ j))
  | _, _ => none
def dGt (d e : D) : Option Bool := match d, e with
  | .int i, .int j => some (decide (j < i))
  | _, _ => none
def dGe (d e : D) : Option Bool := match d, e with
  | .int i, .int j => some (decide (j ≤ i))
  | _, _ => none
def dEq (d e : D) : Option Bool := if (SeqAt.shaped d && SeqAt.shaped e) = true then some (PyData.eqv d e) else none
def dNe (d e : D) : Option Bool := (dEq d e).bind fun b => some (!b)
section
variable {K : PySem.W.Frag}
theorem od_sub : OpD K (rI0 fun i j => .int (i - j)) dSub := fun F H x y d e z s h1 h2 hf Q q => by
  cases d <;> cases e <;> simp only [dSub] at hf <;> cases hf
  cases h1; cases h2
  exact ⟨_, _, rfl, rfl, q _ F H (Ext.refl s) (.int _)⟩
theorem od_mod : OpD K (rI (fun _ j => 0 < j) fun i j => .int (i % j)) dMod := fun F H x y d e z s h1 h2 hf Q q => by
  cases d <;> cases e <;> simp only [dMod] at hf <;> try cases hf
  split at hf
  · cases hf
    cases h1; cases h2
    exact ⟨_, _, rfl, rfl, by assumption, q _ F H (Ext.refl s) (.int _)⟩
  · cases hf
theorem od_div : OpD K (rI CDivW fun i j => .int (i / j)) dDiv := fun F H x y d e z s h1 h2 hf Q q => by
  cases d <;> cases e <;> simp only [dDiv] at hf <;> try cases hf
  split at hf
  · rename_i i j hj
    cases hf
    cases h1; cases h2
    have hb : j.natAbs < 2 ^ 100 := by
      have h1 := hj.1
      have h2 := hj.2
      have e1 : ((j.natAbs : Nat) : Int) = j := Int.natAbs_of_nonneg (Int.le_of_lt h1)
      have h3 : ((j.natAbs : Nat) : Int) < ((2 ^ 100 : Nat) : Int) := by rw [e1]; simpa using h2
      exact Int.ofNat_lt.mp h3
    exact ⟨_, _, rfl, rfl, wide_div hj.1 hb (by decide) (by decide), q _ F H (Ext.refl s) (.int _)⟩
  · cases hf
theorem od_pow : OpD K (rI CPow fun i j => .int (i ^ j.toNat)) dPow := fun F H x y d e z s h1 h2 hf Q q => by
  cases d <;> cases e <;> simp only [dPow] at hf <;> try cases hf
  split at hf
  · rename_i i j hj
    cases hf
    cases h1; cases h2
    exact ⟨_, _, rfl, rfl, ⟨hj.1.1, by have := hj.1.2; omega, hj.2⟩, q _ F H (Ext.refl s) (.int _)⟩
  · cases hf
theorem ob_lt : OpB K (rI0 fun i j => .bl (decide (i < j))) dLt := fun H x y d e b h1 h2 hf Q q => by
  cases d <;> cases e <;> simp only [dLt] at hf <;> cases hf
  cases h1; cases h2
  exact ⟨_, _, rfl, rfl, q⟩
theorem ob_le : OpB K (rI0 fun i j => .bl (decide (i ≤ j))) dLe := fun H x y d e b h1 h2 hf Q q => by
  cases d <;> cases e <;> simp only [dLe] at hf <;> cases hf
  cases h1; cases h2
  exact ⟨_, _, rfl, rfl, q⟩
theorem ob_gt : OpB K (rI0 fun i j => .bl (decide (j < i))) dGt := fun H x y d e b h1 h2 hf Q q => by
  cases d <;> cases e <;> simp only [dGt] at hf <;> cases hf
  cases h1; cases h2
  exact ⟨_, _, rfl, rfl, q⟩
theorem ob_ge : OpB K (rI0 fun i j => .bl (decide (j ≤ i))) dGe := fun H x y d e b h1 h2 hf Q q => by
  cases d <;> cases e <;> simp only [dGe] at hf <;> cases hf
  cases h1; cases h2
  exact ⟨_, _, rfl, rfl, q⟩
theorem ob_eq : OpB K (rEqD K) dEq := fun H x y d e b h1 h2 hf Q q => by
  unfold dEq at hf
  split at hf
  · rename_i hs
    rw [Bool.and_eq_true] at hs
    cases hf
    exact ⟨d, e, h1.up, h2.up, hs.1, hs.2, q⟩
  · cases hf
theorem ob_ne : OpB K (rNeD K) dNe := fun H x y d e b h1 h2 hf Q q => by
  obtain ⟨c, hf, hb⟩ := bindSome hf
  unfold dEq at hf
  split at hf
  · rename_i hs
    rw [Bool.and_eq_true] at hs
    cases hf
    cases hb
    exact ⟨d, e, h1.up, h2.up, hs.1, hs.2, q⟩
  · cases hf
/-- is, is not: None on the right; both truth values -/
def isNone : D → Bool
  | .none => true
  | _ => false
def dIsN (d e : D) : Option Bool := match e with
  | .none => some (isNone d)
  | _ => none
def dNotN (d e : D) : Option Bool := (dIsN d e).bind fun b => some (!b)
theorem isN_one {H : Hp} {v : V} {d : D} (h : Dp K H v d) : decide (v = V.non) = isNone d := by
  cases h <;> rfl
theorem ob_isN : OpB K (fun x y H Q => y = .non ∧ Q (.bl (decide (x = .non))) H) dIsN := fun H x y d e b h1 h2 hf Q q => by
  cases e <;> simp only [dIsN] at hf <;> cases hf
  cases h2
  exact ⟨rfl, by rw [isN_one h1]; exact q⟩
theorem ob_notN : OpB K (fun x y H Q => y = .non ∧ Q (.bl (!decide (x = .non))) H) dNotN := fun H x y d e b h1 h2 hf Q q => by
  obtain ⟨c, hf, hb⟩ := bindSome hf
  cases e <;> simp only [dIsN] at hf <;> cases hf
  cases hb
  cases h2
  exact ⟨rfl, by rw [isN_one h1]; exact q⟩
def dIsB (d e : D) : Option Bool := match d, e with
  | .bool a, .bool b => some (decide (a = b))
  | _, _ => none
def dNotB (d e : D) : Option Bool := (dIsB d e).bind fun b => some (!b)
theorem ob_isB : OpB K rIsB dIsB := fun H x y d e b h1 h2 hf Q q => by
  cases d <;> cases e <;> simp only [dIsB] at hf <;> cases hf
  cases h1; cases h2
  exact ⟨_, _, rfl, rfl, q⟩
theorem ob_notB : OpB K rNotB dNotB := fun H x y d e b h1 h2 hf Q q => by
  obtain ⟨c, hf, hb⟩ := bindSome hf
  cases d <;> cases e <;> simp only [dIsB] at hf <;> cases hf
  cases hb
  cases h1; cases h2
  exact ⟨_, _, rfl, rfl, q⟩
/-- x in a list; in a tuple of flat things -/
def dIn (d e : D) : Option Bool := match e with
  | .list es => if (SeqAt.shaped d && SeqAt.shaped (.list es)) = true then some (es.any fun z => PyData.eqv z d) else none
  | .tuple es => if (flatD d && es.all flatD) = true then some (es.any fun z => PyData.eqv z d) else none
  | _ => none
def dNotIn (d e : D) : Option Bool := (dIn d e).bind fun b => some (!b)
def rInA (K : PySem.W.Frag) : R2 := fun x y H Q => rInD K x y H Q ∨ rIn K false x y H Q
def rNotInA (K : PySem.W.Frag) : R2 := fun x y H Q => rNotInD K x y H Q ∨ rIn K true x y H Q
theorem op_inA {X : Cx} (hu : X.A.units + 65 < cLine) : OpR X (compareOp .In) (rInA X.K) := (op_inD hu).or op_in_seq
theorem op_notInA {X : Cx} (hu : X.A.units + 65 < cLine) : OpR X (compareOp .NotIn) (rNotInA X.K) := (op_notInD hu).or op_notIn_seq
theorem inV_toV {d : D} {es : List D} (fd : flatD d = true) (fe : es.all flatD = true) : inV (toV d) (es.map toV) = es.any fun z => PyData.eqv z d := by
  unfold inV
  rw [List.any_map]
  induction es with
  | nil => rfl
  | cons a es ih =>
    rw [List.all_cons, Bool.and_eq_true] at fe
    rw [List.any_cons, List.any_cons, ih fe.2]
    show (eqV (toV a) (toV d) || _) = _
    rw [eqV_toV fe.1 fd]
theorem ob_in : OpB K (rInA K) dIn := fun H x y d e b h1 h2 hf Q q => by
  cases e <;> simp only [dIn] at hf <;> try cases hf
  · split at hf
    · rename_i hs
      rw [Bool.and_eq_true] at hs
      cases hf
      exact .inl ⟨d, _, h1.up, h2.up, hs.1, hs.2, q⟩
    · cases hf
  · split at hf
    · rename_i hs
      rw [Bool.and_eq_true] at hs
      cases hf
      cases h2 with
      | tup sq al =>
        obtain ⟨rfl, f1⟩ := flat_one h1 hs.1
        obtain ⟨rfl, f2⟩ := flat_all al hs.2
        exact .inr ⟨_, _, rfl, .inr sq.t, f1, f2, by rw [inV_toV hs.1 hs.2]; exact q⟩
    · cases hf
theorem ob_notIn : OpB K (rNotInA K) dNotIn := fun H x y d e b h1 h2 hf Q q => by
  obtain ⟨c, hf, hb⟩ := bindSome hf
  cases e <;> simp only [dIn] at hf <;> try cases hf
  · split at hf
    · rename_i hs
      rw [Bool.and_eq_true] at hs
      cases hf
      cases hb
      exact .inl ⟨d, _, h1.up, h2.up, hs.1, hs.2, q⟩
    · cases hf
  · split at hf
    · rename_i hs
      rw [Bool.and_eq_true] at hs
      cases hf
      cases hb
      cases h2 with
      | tup sq al =>
        obtain ⟨rfl, f1⟩ := flat_one h1 hs.1
        obtain ⟨rfl, f2⟩ := flat_all al hs.2
        refine .inr ⟨_, _, rfl, .inr sq.t, f1, f2, ?_⟩
        rw [if_pos rfl, inV_toV hs.1 hs.2]
        exact q
    · cases hf
end

/-! ### makers of tuples that are known to be plain -/
def rCatS (K : PySem.W.Frag) : R2 := fun x y H Q => ∃ a b xs ys, x = .ref a ∧ y = .ref b ∧ SqT K H a xs ∧ SqT K H b ys ∧ xs.length + ys.length ≤ sizeLine ∧
  (xs = [] → Q (.ref b) H) ∧ (xs ≠ [] → ys = [] → Q (.ref a) H) ∧ (∀ p (o : Obj), H p = none → o.dict = none → Q (.ref p) (upd H p (.frz o (.tup (xs ++ ys)))))
theorem op_catS {X : Cx} : OpR X (binaryOp .Add) (rCatS X.K) := by
  intro pins s σ H x y v u Q I rx ry h
  obtain ⟨a, b, xs, ys, rfl, rfl, ha, hb, hz, q0, q1, q2⟩ := h
  cases rx
  cases ry
  obtain ⟨us, r1, p1, _⟩ := I.tuple ha
  obtain ⟨ws, r2, p2, _⟩ := I.tuple hb
  by_cases hx : xs = []
  · subst hx
    cases r1
    exact cat_tup0 p1 p2 ⟨.ref b, H, I, rfl, q0 rfl⟩
  · refine HT.cat_tup p1 p2 (fun z => hx (r1.nil_iff.mp z)) (fun z => ⟨.ref a, H, I, rfl, q1 hx (r2.nil_iff.mp z)⟩) (fun _ => ?_) (by rw [← r1.length, ← r2.length]; exact hz)
    exact endTup I (r1.append r2) (by rw [List.length_append]; exact hz) s.toks q2
def rSlS' (K : PySem.W.Frag) : V → Option Int → Option Int → Hp → VK → Prop := fun x lo hi H Q => ∃ a xs, x = .ref a ∧ SqT K H a xs ∧
  (HT.sIx xs.length 0 lo = 0 ∧ HT.sIx xs.length xs.length hi = xs.length → Q (.ref a) H) ∧ (∀ p (o : Obj), H p = none → o.dict = none → Q (.ref p) (upd H p (.frz o (.tup (cutV xs lo hi)))))
theorem sl_tupS {X : Cx} : SlR X (rSlS' X.K) := by
  intro pins s σ H x v vl vu lo hi sl Q I rx hs pl pu h
  obtain ⟨a, xs, rfl, hx, q1, q2⟩ := h
  cases rx
  obtain ⟨us, r, ht, hz⟩ := I.tuple hx
  have hn : us.toArray.size = xs.length := by rw [List.size_toArray, r.length]
  refine ⟨"tuple", _, PyProof.Rows.slot_tuple_getitem.lookup, ht.typeIs, ?_⟩
  by_cases hw : HT.sIx xs.length 0 lo = 0 ∧ HT.sIx xs.length xs.length hi = xs.length
  · exact getItem_tuple_whole ht hs pl pu (by rw [hn]; exact hw) ⟨.ref a, H, I, rfl, q1 hw⟩
  · refine HT.getItem_tuple_cut ht hs pl pu (by rw [hn]; exact hw) ?_ (by rw [hn]; exact hz)
    rw [hn]
    exact endTup I ((r.drop (HT.sIx xs.length 0 lo)).take (HT.sIx xs.length xs.length hi - HT.sIx xs.length 0 lo)) (Nat.le_trans (cutV_length xs lo hi) hz) s.toks q2
def rTupS (K : PySem.W.Frag) : List V → Hp → VK → Prop := fun xs H Q => ∃ p ys, xs = [.ref p] ∧ ((SqL K H p ys ∧ ∀ l (o : Obj), H l = none → o.dict = none → Q (.ref l) (upd H l (.frz o (.tup ys)))) ∨ (SqT K H p ys ∧ Q (.ref p) H))
theorem call_tupS {X : Cx} : CallR X (.type "tuple") (rTupS X.K) := by
  intro pins s σ H xs us Q I r h
  obtain ⟨p, ys, rfl, h⟩ := h
  obtain ⟨u, rfl, rx⟩ := vals1 r
  cases rx
  rcases h with ⟨hq, q⟩ | ⟨hq, q⟩
  · obtain ⟨ws, r2, pl, hz⟩ := I.list hq
    refine PySem.call_tuple_list pl.isList (fun h' kp => ?_) (by have := r2.length; simp only [List.size_toArray]; omega)
    exact endTup (I.kept (t' := s.toks) kp) r2 hz s.toks q
  · obtain ⟨ws, r2, pl, hz⟩ := I.tuple hq
    exact call_tuple_same pl ⟨.ref p, H, I, rfl, q⟩
def tTupRgS (te : L2.St → Hp → (Int → Int → Hp → Prop) → Prop) : TE := fun σ H Q => te σ H fun a b H1 => RgOk a b ∧ ∀ q (o : Obj), H1 q = none → o.dict = none → Q (.ref q) (upd H1 q (.frz o (.tup (rgV a b))))
theorem pe_tupRgS {X : Cx} {e : Expr} {te : L2.St → Hp → (Int → Int → Hp → Prop) → Prop} {p pos : Pos} (hc : X.calm = true) (hg : Gl X "tuple") (hm : X.mg "tuple" = none) (he : PRg X e te) (na : starEach [e] X.env = (false, eval e X.env) :: starEach [] X.env := by rfl) :
    PE X (.Call (.Name "tuple" p) [e] [] pos) (tTupRgS te) := by
  refine ⟨fun pins s σ H Q I h => PyProof.Rows.Call_ (ld_blt I hg hm (show bootBuiltins ("tuple" : Str) = some (.type "tuple") by decide +kernel) (PyProof.Rows.callWith_type1 (PyProof.Rows.args_cons (thn (he pins s σ H _ I h) fun x s1 hx => PyProof.Rows.args_nil ?_) na) na))⟩
  obtain ⟨r, a, b, t, u, v, H1, rfl, hr, I1, ⟨b1, b2, b3, b4, b5⟩, q⟩ := hx
  refine call_tuple_range (n := (b - a).toNat) (I1.ok.hd hc) hr (PySem.small_one b1 b2 b3 b4) (PyProof.Rows.rangeSize_nat a b) b5 fun h' tk acc hk hi => ?_
  have I2 : Inv X pins σ H1 { s1 with heap := h', toks := tk } := I1.kept hk
  exact endTup I2 (vals_rg hi) (by rw [rgV_length, sizeLine_eq]; omega) tk q
/-! ### + and * of any kind -/
def rCatL (K : PySem.W.Frag) : R2 := fun x y H Q => ∃ l b xs zs, x = .ref l ∧ y = .ref b ∧ SqL K H l xs ∧ SqL K H b zs ∧ xs.length + zs.length ≤ sizeLine ∧ ∀ p, H p = none → Q (.ref p) (upd H p (.lst (xs ++ zs)))
theorem op_catL {X : Cx} : OpR X (binaryOp .Add) (rCatL X.K) := by
  intro pins s σ H x y v u Q I rx ry h
  obtain ⟨l, b, xs, zs, rfl, rfl, hH, hB, hz, q⟩ := h
  cases rx
  cases ry
  obtain ⟨its, r, ⟨⟨cls, dd, data, sl⟩, n, e, hc, hdn, hd⟩, z⟩ := I.list hH
  obtain ⟨its2, r2, ⟨⟨cls2, dd2, data2, sl2⟩, n2, e2, hc2, hdn2, hd2⟩, z2⟩ := I.list hB
  simp only at hc hdn hd hc2 hdn2 hd2
  subst hc hdn hd hc2 hdn2 hd2
  have hl := r.length
  have hl2 := r2.length
  refine PySem.concat_meets ⟨_, e, rfl⟩ ⟨_, e2, rfl⟩ noFill_list_add seq_list_add PySem.F.slot_list_add PySem.F.entry_list_add (PySem.F.args_list_add_2 _ _)
    (PyProof.Rows.list_addW l b its.toArray its2.toArray n n2 none none sl sl2 (by rw [List.size_toArray, List.size_toArray]; omega)) ⟨e, e2, ?_⟩
  rw [show its.toArray ++ its2.toArray = (its ++ its2).toArray by simp]
  exact ⟨.ref _, _, I.lnew (t' := s.toks) (r.append r2) (by rw [List.length_append]; omega), rfl, q _ I.fresh⟩
def rAddA (K : PySem.W.Frag) : R2 := fun x y H Q => ((rI0 fun i j => .int (i + j)) x y H Q ∨ (∃ i j, x = .str i ∧ y = .str j ∧ i.length + j.length ≤ sizeLine ∧ Q (.str (i ++ j)) H)) ∨ (rCatL K x y H Q ∨ rCatS K x y H Q)
theorem op_addA {X : Cx} : OpR X (binaryOp .Add) (rAddA X.K) := (op_add.or op_add_str).or (op_catL.or op_catS)
def dAdd (d e : D) : Option D := match d, e with
  | .int i, .int j => some (.int (i + j))
  | .str i, .str j => if i.length + j.length ≤ 16777216 then some (.str (i ++ j)) else none
  | .list xs, .list ys => if xs.length + ys.length ≤ 16777216 then some (.list (xs ++ ys)) else none
  | .tuple xs, .tuple ys => if xs.length + ys.length ≤ 16777216 then some (.tuple (xs ++ ys)) else none
  | _, _ => none
section
variable {K : PySem.W.Frag}
theorem od_add : OpD K (rAddA K) dAdd := fun F H x y d e z s h1 h2 hf Q q => by
  cases d <;> cases e <;> simp only [dAdd] at hf <;> try cases hf
  · cases h1; cases h2
    exact .inl (.inl ⟨_, _, rfl, rfl, q _ F H (Ext.refl s) (.int _)⟩)
  · split at hf
    · cases hf
      cases h1; cases h2
      exact .inl (.inr ⟨_, _, rfl, rfl, by rw [sizeLine_eq]; assumption, q _ F H (Ext.refl s) (.str _)⟩)
    · cases hf
  · split at hf
    · rename_i hl
      cases hf
      cases h1 with
      | lst s1 a1 =>
        cases h2 with
        | lst s2 a2 =>
          refine .inr (.inl ⟨_, _, _, _, rfl, rfl, s.seq s1, s.seq s2, by rw [DpAll.length a1, DpAll.length a2, sizeLine_eq]; exact hl, fun p hp => ?_⟩)
          exact q _ _ _ (Ext.new s hp) (.lst (SqL.of upd_same) (DpAll.mono (same_upd (s.free hp)) (DpAll.append a1 a2)))
    · cases hf
  · split at hf
    · rename_i xs ys hl
      cases hf
      cases h1 with
      | @tup a vs _ s1 a1 =>
        cases h2 with
        | @tup b ws _ s2 a2 =>
          refine .inr (.inr ⟨_, _, _, _, rfl, rfl, (s1.mono s).t, (s2.mono s).t, by rw [DpAll.length a1, DpAll.length a2, sizeLine_eq]; exact hl, fun z => ?_, fun _ z => ?_, fun p o hp ho => ?_⟩)
          · subst z
            cases a1
            exact q _ F H (Ext.refl s) (.tup s2 a2)
          · subst z
            cases a2
            refine q _ F H (Ext.refl s) ?_
            rw [List.append_nil]
            exact .tup s1 a1
          · exact q _ _ _ (Ext.new s hp) (.tup ⟨o, upd_same, ho⟩ (DpAll.mono (same_upd (s.free hp)) (DpAll.append a1 a2)))
    · cases hf
/-- two lists put together: a new one -/
def lCat (xs ys : List D) : Option (List D) := if xs.length + ys.length ≤ 16777216 then some (xs ++ ys) else none
def l2 (f : List D → List D → Option (List D)) (g h : DE → Option (List D)) : DE → Option (List D) := fun ρ => (g ρ).bind fun x => (h ρ).bind fun y => f x y
variable {X : Cx} {a b : Expr} {ta tb : TE} {pos : Pos} {gx gy : DE → Option (List D)}
theorem pn_cat (ha : PL K X a ta gx) (hb : PL K X b tb gy) : PN K X (.BinOp a .Add b pos) (tOp (rCatL K) ta tb) (l2 lCat gx gy) :=
  ⟨fun k => by have := op_catL (X := X); rw [k] at this; exact pe_op this (ha.pe k) (hb.pe k), fun F0 H0 F ρ σ H ds rr hg Q q => by
    obtain ⟨d1, h1, h2⟩ := bindSome hg
    obtain ⟨d2, h3, h4⟩ := bindSome h2
    unfold lCat at h4
    split at h4
    · rename_i hl
      cases h4
      refine ha.ok F0 H0 F ρ σ H d1 rr h1 _ fun v vs F1 H1 x1 s1 p1 => ?_
      refine hb.ok F0 H0 F1 ρ σ H1 d2 (rr.ext x1) h3 _ fun u us F2 H2 x2 s2 p2 => ?_
      refine ⟨v, u, vs, us, rfl, rfl, x2.h.seq s1, s2, by rw [DpAll.length p1, DpAll.length p2, sizeLine_eq]; exact hl, fun p hp => ?_⟩
      have x12 := x1.trans x2
      exact q p _ F2 _ (x12.trans (Ext.loose x2.i hp)) upd_same (x12.h.free hp) (x2.i.free hp) (DpAll.append (DpAll.mono x2.f p1) p2)
    · cases h4⟩
def rRepL (K : PySem.W.Frag) : R2 := fun x y H Q => ∃ l k xs, x = .ref l ∧ y = .int k ∧ SqL K H l xs ∧ -(2 ^ 63) ≤ k ∧ k < 2 ^ 63 ∧ xs.length * k.toNat ≤ sizeLine ∧ ∀ p, H p = none → Q (.ref p) (upd H p (.lst (List.replicate k.toNat xs).flatten))
/-- tuple * int -/
def rRepS (K : PySem.W.Frag) : R2 := fun x y H Q => ∃ l k xs, x = .ref l ∧ y = .int k ∧ SqT K H l xs ∧ xs ≠ [] ∧ 2 ≤ k ∧ k ≤ 1000 ∧ xs.length ≤ 1000 ∧ ∀ p (o : Obj), H p = none → o.dict = none → Q (.ref p) (upd H p (.frz o (.tup (List.replicate k.toNat xs).flatten)))
theorem op_repS {X : Cx} : OpR X (binaryOp .Mult) (rRepS X.K) := by
  intro pins s σ H x y v u Q I rx ry h
  obtain ⟨l, k, xs, rfl, rfl, hT, hne, h1, h2, hz, q⟩ := h
  cases rx
  obtain ⟨t, rfl⟩ := ry
  obtain ⟨us, r, ⟨⟨cls, dd, data, sl⟩, ho, hc, n, hd⟩, hs⟩ := I.tuple hT
  simp only at hc hd
  subst hc hd
  have hle : us.length = xs.length := r.length.symm
  have hsz0 : us.toArray.size = xs.length := by rw [List.size_toArray, hle]
  have hpos : 0 < us.length := by
    rw [hle]
    exact List.length_pos_iff.mpr hne
  have hem : us.toArray.isEmpty = false := by
    cases us with
    | nil => exact absurd hpos (Nat.lt_irrefl 0)
    | cons a b => rfl
  have hprod : ((us.toArray.size : Nat) : Int) * k ≤ 1000000 := by
    rw [hsz0]
    have : ((xs.length : Nat) : Int) * k ≤ 1000 * k := Int.mul_le_mul_of_nonneg_right (by omega) (by omega)
    omega
  have hflen : (List.replicate k.toNat us).flatten.length ≤ sizeLine := by
    rw [PyProof.Rows.lm_len_rep_flat, hle, sizeLine_eq]
    have : k.toNat * xs.length ≤ 1000 * 1000 := Nat.mul_le_mul (by omega) hz
    omega
  have d0 : (decide (k < -(2 ^ 63)) || decide (k ≥ 2 ^ 63)) = false := by
    rw [Bool.or_eq_false_iff]
    exact ⟨decide_eq_false (by omega), decide_eq_false (by omega)⟩
  have d1 : (us.toArray.isEmpty || k == 1) = false := by
    rw [Bool.or_eq_false_iff]
    exact ⟨hem, beq_eq_false_iff_ne.mpr (by omega)⟩
  have d2 : (decide (k ≤ 0) || us.toArray.isEmpty) = false := by
    rw [Bool.or_eq_false_iff]
    exact ⟨decide_eq_false (by omega), hem⟩
  have d4 : Builtin.Tuple.tupleTooMany (((us.toArray.size : Nat) : Int) * k) = false := by
    unfold Builtin.Tuple.tupleTooMany
    rw [sizeLine_eq]
    exact decide_eq_false (by omega)
  have run := tuple_mulW l us.toArray n dd sl k t d0 d1 d2 (by omega) d4 (by rw [size_rep, List.size_toArray]; exact hflen)
  refine PySem.wpAny_binaryOp_repeat_ref (T := "tuple") (U := "int") (by decide) ⟨_, ho, rfl⟩ (fun s' => typeIs_int s' k t) noFill_tuple_mul PySem.F.fills_int_mul PySem.F.slot_int_rmul repeat_tuple PySem.F.slot_int_index.lookup ?_
  refine PySem.call_meets PySem.F.slot_int_rmul (typeIs_int s k t) PySem.F.entry_int_rmul (PySem.F.args_int_rmul_2 _ _) (int_rmul_tuple k t l us.toArray n dd sl) ⟨ho, rfl, ⟨_, ho, rfl⟩, ?_⟩
  refine PySem.call_meets PySem.F.slot_tuple_mul ⟨_, ho, rfl⟩ PySem.F.entry_tuple_mul (PySem.F.args_tuple_mul_2 _ _) run ⟨ho, ?_⟩
  rw [size_rep]
  exact endTup I (r.rep k.toNat) (by rw [PyProof.Rows.lm_len_rep_flat, ← hle, ← PyProof.Rows.lm_len_rep_flat]; exact hflen) s.toks q
/-- list * int, whatever stands -/
theorem op_repL {X : Cx} : OpR X (binaryOp .Mult) (rRepL X.K) := by
  intro pins s σ H x y v u Q I rx ry h
  obtain ⟨l, k, xs, rfl, rfl, hH, h1, h2, hz, q⟩ := h
  cases rx
  obtain ⟨t, rfl⟩ := ry
  obtain ⟨its, r, ⟨⟨cls, dd, data, sl⟩, n, e, hc, hdn, hd⟩, z⟩ := I.list hH
  simp only at hc hdn hd
  subst hc hdn hd
  have hl := r.length
  have hz2 : its.length * k.toNat ≤ 16777216 := by rw [← hl, ← sizeLine_eq]; exact hz
  have hsz' : its.toArray.size * k.toNat ≤ 2 ^ 24 := by simpa using hz2
  refine PySem.wpAny_binaryOp_repeat_ref (T := "list") (U := "int") (by decide) ⟨_, e, rfl⟩ (fun s' => typeIs_int s' k t) noFill_list_mul PySem.F.fills_int_mul PySem.F.slot_int_rmul repeat_list PySem.F.slot_int_index.lookup
    (PySem.call_meets PySem.F.slot_int_rmul (typeIs_int s k t) PySem.F.entry_int_rmul (PySem.F.args_int_rmul_2 _ _) (lm_int_rmul_list_any k t l its.toArray n none sl)
      ⟨e, rfl, ⟨_, e, rfl⟩, PySem.call_meets PySem.F.slot_list_mul ⟨_, e, rfl⟩ PySem.F.entry_list_mul (PySem.F.args_list_mul_2 _ _)
        (lm_list_mul_any l its.toArray n none sl k t (by simp [Builtin.List.listFitsIndex]; omega) (by omega) (by simp [Builtin.List.listTooLong, sizeLine]; omega)) ⟨e, ?_⟩⟩)
  rw [PyProof.Rows.listMul_foldl_if]
  exact ⟨.ref _, _, I.lnew (t' := s.toks) (r.rep k.toNat) (by rw [PyProof.Rows.lm_len_rep_flat, Nat.mul_comm]; exact hz), rfl, q _ I.fresh⟩
/-- int * int, tuple * int, list * int -/
def rMulA (K : PySem.W.Frag) : R2 := fun x y H Q => (rI CMul fun i j => .int (i * j)) x y H Q ∨ (rRepS K x y H Q ∨ rRepL K x y H Q)
theorem op_mulA {X : Cx} : OpR X (binaryOp .Mult) (rMulA X.K) := op_mul.or (op_repS.or op_repL)
def dMul (d e : D) : Option D := match d, e with
  | .int i, .int j => if (-(2 ^ 64) < i ∧ i < 2 ^ 64) ∨ (-(2 ^ 64) < j ∧ j < 2 ^ 64) then some (.int (i * j)) else none
  | .tuple xs, .int k => if (xs.length ≠ 0 ∧ xs.length ≤ 1000) ∧ 2 ≤ k ∧ k ≤ 1000 then some (.tuple (List.replicate k.toNat xs).flatten) else none
  | .list xs, .int k => if (-(2 ^ 63) ≤ k ∧ k < 2 ^ 63) ∧ xs.length * k.toNat ≤ 16777216 then some (.list (List.replicate k.toNat xs).flatten) else none
  | _, _ => none
theorem od_mul : OpD K (rMulA K) dMul := fun F H x y d e z s h1 h2 hf Q q => by
  cases d <;> cases e <;> simp only [dMul] at hf <;> try cases hf
  · split at hf
    · cases hf
      cases h1; cases h2
      exact .inl ⟨_, _, rfl, rfl, by assumption, q _ F H (Ext.refl s) (.int _)⟩
    · cases hf
  · split at hf
    · rename_i hl
      cases hf
      cases h2
      cases h1 with
      | @lst a vs _ s1 a1 =>
        have e1 := DpAll.length a1
        refine .inr (.inr ⟨_, _, _, rfl, rfl, s.seq s1, hl.1.1, hl.1.2, by rw [e1, sizeLine_eq]; exact hl.2, fun p hp => ?_⟩)
        exact q _ _ _ (Ext.new s hp) (.lst (SqL.of upd_same) (DpAll.mono (same_upd (s.free hp)) (DpAll.replicate a1 _)))
    · cases hf
  · split at hf
    · rename_i hl
      cases hf
      cases h2
      cases h1 with
      | @tup a vs _ s1 a1 =>
        have e1 := DpAll.length a1
        refine .inr (.inl ⟨_, _, _, rfl, rfl, (s1.mono s).t, fun z => hl.1.1 (by rw [← e1, z]; rfl), hl.2.1, hl.2.2, by rw [e1]; exact hl.1.2, fun p o hp ho => ?_⟩)
        exact q _ _ _ (Ext.new s hp) (.tup ⟨o, upd_same, ho⟩ (DpAll.mono (same_upd (s.free hp)) (DpAll.replicate a1 _)))
    · cases hf
/-- [..] * k: a new list out of a new one -/
def eRep (g : DE → Option (List D)) (h : DE → Option D) : DE → Option (List D) := fun ρ => (g ρ).bind fun xs => ((h ρ).bind asI).bind fun k => if (-(2 ^ 63) ≤ k ∧ k < 2 ^ 63) ∧ xs.length * k.toNat ≤ 16777216 then some (List.replicate k.toNat xs).flatten else none
theorem pn_rep {gx : DE → Option (List D)} {gk : DE → Option D} (ha : PN K X a ta gx) (hb : PD K X b tb gk) : PN K X (.BinOp a .Mult b pos) (tOp rRep ta tb) (eRep gx gk) :=
  ⟨fun k => pe_op op_rep (ha.pe k) (hb.pe k), fun F0 H0 F ρ σ H ds rr hg Q q => by
    obtain ⟨d1, h1, h2⟩ := bindSome hg
    obtain ⟨k, h3, h4⟩ := bindSome h2
    obtain ⟨d3, h5, h6⟩ := bindSome h3
    have := asI_some h6
    subst this
    split at h4
    · rename_i hl
      cases h4
      refine ha.ok F0 H0 F ρ σ H d1 rr h1 _ fun v vs F1 H1 x1 s1 hn1 fn1 p1 => ?_
      refine hb.ok F0 H0 F1 ρ σ H1 _ (rr.ext x1) h5 _ fun u F2 H2 x2 p2 => ?_
      cases p2
      refine ⟨v, k, vs, rfl, rfl, x2.h _ _ s1, hl.1.1, hl.1.2, by rw [DpAll.length p1, sizeLine_eq]; exact hl.2, fun p hp => ?_⟩
      have x12 := x1.trans x2
      exact q p _ F2 _ (x12.trans (Ext.loose x2.i hp)) upd_same (x12.h.free hp) (x2.i.free hp) (DpAll.replicate (DpAll.mono x2.f p1) _)
    · cases h4⟩
theorem pd_neg {gx : DE → Option D} (ha : PD K X a ta gx) : PD K X (.UnaryOp .USub a pos) (tUn (rU fun i => .int (-i)) ta) (e1 dNeg gx) :=
  ⟨fun k => pe_un un_neg (ha.pe k), fun F0 H0 F ρ σ H ds rr hg Q q => by
    obtain ⟨d1, h1, h2⟩ := bindSome hg
    cases d1 <;> simp only [dNeg] at h2 <;> cases h2
    refine ha.ok F0 H0 F ρ σ H _ rr h1 _ fun v F1 H1 x1 p1 => ?_
    cases p1
    exact ⟨_, rfl, q _ F1 H1 x1 (.int _)⟩⟩

/-! ### subscripts -/
def dIx (d e : D) : Option D := match d, e with
  | .list xs, .int i => atI xs i
  | .tuple xs, .int i => atI xs i
  | _, _ => none
theorem atI_dp {F : Hp} {vs : List V} {ds : List D} (al : DpAll K F vs ds) {i : Int} {d : D} (h : atI ds i = some d) : ∃ v, atI vs i = some v ∧ Dp K F v d := by
  obtain ⟨j, h1, h2⟩ := bindSome h
  obtain ⟨v, h3, h4⟩ := DpAll.get' al h2
  refine ⟨v, ?_, h4⟩
  unfold atI
  rw [DpAll.length al, h1]
  exact h3
theorem pd_ix {gx gy : DE → Option D} (ha : PD K X a ta gx) (hb : PD K X b tb gy) (hs : PlainIx b := by exact fun _ _ => rfl) : PD K X (.Subscript a b pos) (tOp (rIx K) ta tb) (e2 dIx gx gy) :=
  ⟨fun k => by have := ix_seq (X := X); rw [k] at this; exact pe_ix this (ha.pe k) (hb.pe k) hs, fun F0 H0 F ρ σ H d rr hg Q q => by
    obtain ⟨d1, h1, h2⟩ := bindSome hg
    obtain ⟨d2, h3, h4⟩ := bindSome h2
    refine ha.ok F0 H0 F ρ σ H d1 rr h1 _ fun v F1 H1 x1 p1 => ?_
    refine hb.ok F0 H0 F1 ρ σ H1 d2 (rr.ext x1) h3 _ fun u F2 H2 x2 p2 => ?_
    cases d1 <;> cases d2 <;> simp only [dIx] at h4 <;> try cases h4
    · cases p2
      cases p1 with
      | lst s1 a1 =>
        obtain ⟨v, e1, dp⟩ := atI_dp a1 h4
        exact .inl ⟨_, _, _, v, rfl, rfl, (x1.i.trans x2.h).seq s1, e1, q v F2 H2 (x1.trans x2) (Dp.mono x2.f dp)⟩
    · cases p2
      cases p1 with
      | tup s1 a1 =>
        obtain ⟨v, e1, dp⟩ := atI_dp a1 h4
        exact .inr (.inl ⟨_, _, _, v, rfl, rfl, SqT.mono (x1.i.trans x2.h) s1.t, e1, q v F2 H2 (x1.trans x2) (Dp.mono x2.f dp)⟩)⟩
/-- an item of a list that is to be read -/
def eIxL (g : DE → Option (List D)) (h : DE → Option D) : DE → Option D := fun ρ => (g ρ).bind fun xs => ((h ρ).bind asI).bind fun i => atI xs i
theorem pd_ixL {gy : DE → Option D} (ha : PL K X a ta gx) (hb : PD K X b tb gy) (hs : PlainIx b := by exact fun _ _ => rfl) : PD K X (.Subscript a b pos) (tOp (rIxL K) ta tb) (eIxL gx gy) :=
  ⟨fun k => by have := ix_list (X := X); rw [k] at this; exact pe_ix this (ha.pe k) (hb.pe k) hs, fun F0 H0 F ρ σ H d rr hg Q q => by
    obtain ⟨d1, h1, h2⟩ := bindSome hg
    obtain ⟨i, h3, h4⟩ := bindSome h2
    obtain ⟨d2, h5, h6⟩ := bindSome h3
    have := asI_some h6
    subst this
    refine ha.ok F0 H0 F ρ σ H d1 rr h1 _ fun v vs F1 H1 x1 s1 p1 => ?_
    refine hb.ok F0 H0 F1 ρ σ H1 _ (rr.ext x1) h5 _ fun u F2 H2 x2 p2 => ?_
    cases p2
    obtain ⟨v, e1, dp⟩ := atI_dp p1 h4
    exact ⟨_, _, _, v, rfl, rfl, x2.h.seq s1, e1, q v F2 H2 (x1.trans x2) (Dp.mono x2.f dp)⟩⟩
/-! slices -/
def So' (K : PySem.W.Frag) (t : TO) (g : DE → Option (Option Int)) : Prop := ∀ (F0 H0 F : Hp) (ρ : DE) (σ : L2.St) (H : Hp) (o : Option Int), R K F0 H0 F ρ σ H → g ρ = some o →
  ∀ Q : Option Int → Hp → Prop, (∀ F' H', Ext F H F' H' → Q o H') → t σ H Q
structure POd (K : PySem.W.Frag) (X : Cx) (e : Option Expr) (t : TO) (g : DE → Option (Option Int)) : Prop where
  po : X.K = K → PO X e t
  ok : So' K t g
theorem pod_none : POd K X none tNoPart (fun _ => some none) := ⟨fun _ => po_none, fun F0 H0 F ρ σ H o r hg Q q => by cases hg; exact q F H (Ext.refl r.f)⟩
def ePart (g : DE → Option D) : DE → Option (Option Int) := fun ρ => ((g ρ).bind asI).bind fun i => some (some i)
theorem pod_some {e : Expr} {te : TE} {g : DE → Option D} (h : PD K X e te g) : POd K X (some e) (tPart te) (ePart g) := ⟨fun k => po_some (h.pe k), fun F0 H0 F ρ σ H o r hg Q q => by
  obtain ⟨i, h1, h2⟩ := bindSome hg
  obtain ⟨d, h3, h4⟩ := bindSome h1
  have := asI_some h4
  subst this
  cases h2
  refine h.ok F0 H0 F ρ σ H _ r h3 _ fun v F1 H1 x1 p1 => ?_
  cases p1
  exact ⟨i, rfl, q F1 H1 x1⟩⟩
def cutD (xs : List D) (lo hi : Option Int) : List D := (xs.drop (HT.sIx xs.length 0 lo)).take (HT.sIx xs.length xs.length hi - HT.sIx xs.length 0 lo)
def eSlice (g : DE → Option D) (lo hi : DE → Option (Option Int)) : DE → Option D := fun ρ => (g ρ).bind fun d => (lo ρ).bind fun l => (hi ρ).bind fun h => match d with
  | .tuple xs => some (.tuple (cutD xs l h))
  | .list xs => some (.list (cutD xs l h))
  | _ => none
theorem cut_dp {F : Hp} {vs : List V} {ds : List D} (al : DpAll K F vs ds) (lo hi : Option Int) : DpAll K F (cutV vs lo hi) (cutD ds lo hi) := by
  unfold cutV cutD
  rw [DpAll.length al]
  exact DpAll.take _ (DpAll.drop _ al)
theorem cutD_all {xs : List D} {lo hi : Option Int} (h1 : HT.sIx xs.length 0 lo = 0) (h2 : HT.sIx xs.length xs.length hi = xs.length) : cutD xs lo hi = xs := by
  unfold cutD
  rw [h1, h2, List.drop_zero, Nat.sub_zero, List.take_length]
def rSlAny (K : PySem.W.Frag) : V → Option Int → Option Int → Hp → VK → Prop := fun x lo hi H Q => rSlS' K x lo hi H Q ∨ rSlL K x lo hi H Q
theorem pd_slice {lo hi : Option Expr} {p2 : Pos} {tl th : TO} {g : DE → Option D} {gl gh : DE → Option (Option Int)} (ha : PD K X a ta g) (hl : POd K X lo tl gl) (hh : POd K X hi th gh) : PD K X (.Subscript a (.Slice lo hi none p2) pos) (tSl (rSlAny K) ta tl th) (eSlice g gl gh) :=
  ⟨fun k => by
      have : SlR X (fun x lo hi H Q => rSlS' X.K x lo hi H Q ∨ rSlL X.K x lo hi H Q) := sl_tupS.or sl_list
      rw [k] at this
      exact pe_slice this (ha.pe k) (hl.po k) (hh.po k), fun F0 H0 F ρ σ H d rr hg Q q => by
    obtain ⟨d1, h1, h2⟩ := bindSome hg
    obtain ⟨l, h3, h4⟩ := bindSome h2
    obtain ⟨u, h5, h6⟩ := bindSome h4
    refine ha.ok F0 H0 F ρ σ H d1 rr h1 _ fun v F1 H1 x1 p1 => ?_
    refine hl.ok F0 H0 F1 ρ σ H1 l (rr.ext x1) h3 _ fun F2 H2 x2 => ?_
    refine hh.ok F0 H0 F2 ρ σ H2 u ((rr.ext x1).ext x2) h5 _ fun F3 H3 x3 => ?_
    have x13 := (x1.trans x2).trans x3
    have x23 := x2.trans x3
    cases d1 <;> simp only at h6 <;> cases h6
    · cases p1 with
      | lst s1 a1 =>
        refine .inr ⟨_, _, rfl, (x1.i.trans x23.h).seq s1, fun p hp => ?_⟩
        exact q _ _ _ (x13.trans (Ext.new x23.i hp)) (.lst (SqL.of upd_same) (DpAll.mono (x23.f.trans (same_upd (x23.i.free hp))) (cut_dp a1 l u)))
    · cases p1 with
      | tup s1 a1 =>
        refine .inl ⟨_, _, rfl, SqT.mono (x1.i.trans x23.h) s1.t, fun hw => ?_, fun p o hp ho => ?_⟩
        · rw [DpAll.length a1] at hw
          rw [cutD_all hw.1 hw.2] at q
          exact q _ F3 H3 x13 (Dp.mono x23.f (.tup s1 a1))
        · exact q _ _ _ (x13.trans (Ext.new x23.i hp)) (.tup ⟨o, upd_same, ho⟩ (DpAll.mono (x23.f.trans (same_upd (x23.i.free hp))) (cut_dp a1 l u)))⟩
end

/-! ### built-ins -/
def asBs : List D → Option (List Bool)
  | [] => some []
  | .bool b :: r => (asBs r).bind fun bs => some (b :: bs)
  | _ => none
def asIs : List D → Option (List Int)
  | [] => some []
  | .int b :: r => (asIs r).bind fun bs => some (b :: bs)
  | _ => none
theorem asBs_some : ∀ {ds : List D} {bs : List Bool}, asBs ds = some bs → ds = bs.map PyData.bool
  | [], _, h => by cases h; rfl
  | .bool b :: r, _, h => by
    obtain ⟨cs, h1, h2⟩ := bindSome h
    cases h2
    rw [List.map_cons, asBs_some h1]
  | .none :: _, _, h => by cases h
  | .int _ :: _, _, h => by cases h
  | .str _ :: _, _, h => by cases h
  | .list _ :: _, _, h => by cases h
  | .tuple _ :: _, _, h => by cases h
  | .dict _ :: _, _, h => by cases h
theorem asIs_some : ∀ {ds : List D} {bs : List Int}, asIs ds = some bs → ds = bs.map PyData.int
  | [], _, h => by cases h; rfl
  | .int b :: r, _, h => by
    obtain ⟨cs, h1, h2⟩ := bindSome h
    cases h2
    rw [List.map_cons, asIs_some h1]
  | .none :: _, _, h => by cases h
  | .bool _ :: _, _, h => by cases h
  | .str _ :: _, _, h => by cases h
  | .list _ :: _, _, h => by cases h
  | .tuple _ :: _, _, h => by cases h
  | .dict _ :: _, _, h => by cases h
theorem asBs_map : ∀ bs : List Bool, asBs (bs.map PyData.bool) = some bs
  | [] => rfl
  | b :: bs => by rw [List.map_cons]; unfold asBs; rw [asBs_map bs]; rfl
theorem asIs_map : ∀ bs : List Int, asIs (bs.map PyData.int) = some bs
  | [] => rfl
  | b :: bs => by rw [List.map_cons]; unfold asIs; rw [asIs_map bs]; rfl
def cLen : List D → Option D
  | [.list xs] => some (.int (xs.length : Nat))
  | [.tuple xs] => some (.int (xs.length : Nat))
  | [.str x] => if x.length ≤ 16777216 then some (.int (x.length : Nat)) else none
  | _ => none
def cAll : List D → Option D
  | [.list xs] => (asBs xs).bind fun bs => some (.bool (bs.all id))
  | _ => none
def cAny : List D → Option D
  | [.list xs] => (asBs xs).bind fun bs => some (.bool (bs.any id))
  | _ => none
def cSum : List D → Option D
  | [.list xs] => (asIs xs).bind fun bs => some (.int bs.sum)
  | [.tuple xs] => (asIs xs).bind fun bs => some (.int bs.sum)
  | _ => none
def maxI : List Int → Option Int
  | [] => none
  | x :: xs => some (xs.foldl max x)
def minI : List Int → Option Int
  | [] => none
  | x :: xs => some (xs.foldl min x)
def cMax : List D → Option D
  | [.list xs] => ((asIs xs).bind maxI).bind fun m => some (.int m)
  | _ => none
def cMin : List D → Option D
  | [.list xs] => ((asIs xs).bind minI).bind fun m => some (.int m)
  | _ => none
def cMax2 : List D → Option D
  | [.int i, .int j] => some (.int (if j > i then j else i))
  | _ => none
def cDivmod : List D → Option D
  | [.int i, .int j] => if 0 < j ∧ j < 1073741824 then some (.tuple [.int (i / j), .int (i % j)]) else none
  | _ => none
def cTuple : List D → Option D
  | [.list xs] => some (.tuple xs)
  | [.tuple xs] => some (.tuple xs)
  | _ => none
theorem foldl_max_le : ∀ (xs : List Int) (x : Int), x ≤ xs.foldl max x ∧ (∀ y ∈ xs, y ≤ xs.foldl max x) ∧ (xs.foldl max x = x ∨ xs.foldl max x ∈ xs)
  | [], x => ⟨Int.le_refl _, (fun _ h => nomatch h), .inl rfl⟩
  | z :: xs, x => by
    obtain ⟨h1, h2, h3⟩ := foldl_max_le xs (max x z)
    rw [List.foldl_cons]
    refine ⟨by omega, fun y hy => ?_, ?_⟩
    · rcases List.mem_cons.mp hy with rfl | hy
      · omega
      · exact h2 y hy
    · rcases h3 with h3 | h3
      · rcases (show max x z = x ∨ max x z = z by omega) with e | e
        · exact .inl (h3.trans e)
        · exact .inr (by rw [h3, e]; exact List.mem_cons_self)
      · exact .inr (List.mem_cons_of_mem _ h3)
theorem foldl_min_le : ∀ (xs : List Int) (x : Int), xs.foldl min x ≤ x ∧ (∀ y ∈ xs, xs.foldl min x ≤ y) ∧ (xs.foldl min x = x ∨ xs.foldl min x ∈ xs)
  | [], x => ⟨Int.le_refl _, (fun _ h => nomatch h), .inl rfl⟩
  | z :: xs, x => by
    obtain ⟨h1, h2, h3⟩ := foldl_min_le xs (min x z)
    rw [List.foldl_cons]
    refine ⟨by omega, fun y hy => ?_, ?_⟩
    · rcases List.mem_cons.mp hy with rfl | hy
      · omega
      · exact h2 y hy
    · rcases h3 with h3 | h3
      · rcases (show min x z = x ∨ min x z = z by omega) with e | e
        · exact .inl (h3.trans e)
        · exact .inr (by rw [h3, e]; exact List.mem_cons_self)
      · exact .inr (List.mem_cons_of_mem _ h3)
theorem maxI_of {ns : List Int} {m z : Int} (hm : m ∈ ns) (hle : ∀ y ∈ ns, y ≤ m) (h : maxI ns = some z) : m = z := by
  cases ns with
  | nil => cases hm
  | cons x xs =>
    cases h
    obtain ⟨h1, h2, h3⟩ := foldl_max_le xs x
    refine Int.le_antisymm ?_ (hle _ ?_)
    · rcases List.mem_cons.mp hm with rfl | hm
      · exact h1
      · exact h2 m hm
    · rcases h3 with h3 | h3
      · rw [h3]; exact List.mem_cons_self
      · exact List.mem_cons_of_mem _ h3
theorem minI_of {ns : List Int} {m z : Int} (hm : m ∈ ns) (hle : ∀ y ∈ ns, m ≤ y) (h : minI ns = some z) : m = z := by
  cases ns with
  | nil => cases hm
  | cons x xs =>
    cases h
    obtain ⟨h1, h2, h3⟩ := foldl_min_le xs x
    refine Int.le_antisymm (hle _ ?_) ?_
    · rcases h3 with h3 | h3
      · rw [h3]; exact List.mem_cons_self
      · exact List.mem_cons_of_mem _ h3
    · rcases List.mem_cons.mp hm with rfl | hm
      · exact h1
      · exact h2 m hm
section
variable {K : PySem.W.Frag}
theorem one_of {H : Hp} {vs : List V} {d : D} (h : DpAll K H vs [d]) : ∃ v, vs = [v] ∧ Dp K H v d := by
  cases h with
  | cons h t => cases t; exact ⟨_, rfl, h⟩
theorem two_of {H : Hp} {vs : List V} {d e : D} (h : DpAll K H vs [d, e]) : ∃ v w, vs = [v, w] ∧ Dp K H v d ∧ Dp K H w e := by
  cases h with
  | cons h t => obtain ⟨w, rfl, h2⟩ := one_of t; exact ⟨_, _, rfl, h, h2⟩
theorem cb_len : ClB K (fun xs H Q => ∃ x n, xs = [x] ∧ LenV K x H n ∧ Q (.int n) H) cLen := fun H vs ds z al hf Q q => by
  unfold cLen at hf
  split at hf
  · cases hf
    obtain ⟨v, rfl, dp⟩ := one_of al
    cases dp with
    | lst s a => exact ⟨_, _, rfl, .inl ⟨_, s, rfl⟩, by rw [DpAll.length a]; exact q _ fun F => .int _⟩
  · cases hf
    obtain ⟨v, rfl, dp⟩ := one_of al
    cases dp with
    | tup s a => exact ⟨_, _, rfl, .inr ⟨_, s.t, rfl⟩, by rw [DpAll.length a]; exact q _ fun F => .int _⟩
  · split at hf
    · cases hf
      obtain ⟨v, rfl, dp⟩ := one_of al
      cases dp
      exact ⟨_, _, rfl, ⟨by rw [sizeLine_eq]; assumption, rfl⟩, q _ fun F => .int _⟩
    · cases hf
  · cases hf
theorem cb_all : ClB K (rAll K) cAll := fun H vs ds z al hf Q q => by
  unfold cAll at hf
  split at hf
  · obtain ⟨bs, h1, h2⟩ := bindSome hf
    cases h2
    have := asBs_some h1
    subst this
    obtain ⟨v, rfl, dp⟩ := one_of al
    cases dp with
    | lst s a =>
      have := DpAll.bools a
      subst this
      exact ⟨_, bs, rfl, s, q _ fun F => .bl _⟩
  · cases hf
theorem cb_any : ClB K (rAny K) cAny := fun H vs ds z al hf Q q => by
  unfold cAny at hf
  split at hf
  · obtain ⟨bs, h1, h2⟩ := bindSome hf
    cases h2
    have := asBs_some h1
    subst this
    obtain ⟨v, rfl, dp⟩ := one_of al
    cases dp with
    | lst s a =>
      have := DpAll.bools a
      subst this
      exact ⟨_, bs, rfl, s, q _ fun F => .bl _⟩
  · cases hf
/-- sum(xs) of a list or a tuple of ints -/
def rSumA (K : PySem.W.Frag) : List V → Hp → VK → Prop := fun vs H Q => rSum K vs H Q ∨ ∃ (a : Addr) (ns : List Int), vs = [V.ref a] ∧ SqT K H a (ns.map V.int) ∧ Q (.int ns.sum) H
theorem cr_sumA {X : Cx} (hc : X.calm = true) : CallR X (.builtin "sum") (rSumA X.K) := by
  intro pins s σ H vs us Q I r h
  rcases h with h | h
  · exact cr_sum hc pins s σ H vs us Q I r h
  · obtain ⟨a, ns, rfl, hs, q⟩ := h
    obtain ⟨its, rv, pt, _⟩ := I.tuple hs
    rw [Vals.ref1 r]
    have hi := rv.ints
    have hl : s.heap.IsTuple a its.toArray := pt
    obtain ⟨xs, e⟩ := hi.allInts.items
    have hn : PySem.numsOf (intItems xs).toList = ns := by rw [← e]; exact hi.numsOf
    rw [nums_intItems] at hn
    rw [e] at hl
    refine PySem.W.ktm_sumG (I.ok.hd hc) hl fun h' tk t' hk => ?_
    rw [preSum_eq, List.take_of_length_le (by simp), hn]
    exact ⟨.int _, H, I.kept hk, ⟨_, rfl⟩, q⟩
theorem cb_sum : ClB K (rSumA K) cSum := fun H vs ds z al hf Q q => by
  unfold cSum at hf
  split at hf
  · obtain ⟨bs, h1, h2⟩ := bindSome hf
    cases h2
    have := asIs_some h1
    subst this
    obtain ⟨v, rfl, dp⟩ := one_of al
    cases dp with
    | lst s a =>
      have := DpAll.ints a
      subst this
      exact .inl ⟨_, bs, rfl, s, q _ fun F => .int _⟩
  · obtain ⟨bs, h1, h2⟩ := bindSome hf
    cases h2
    have := asIs_some h1
    subst this
    obtain ⟨v, rfl, dp⟩ := one_of al
    cases dp with
    | tup s a =>
      have := DpAll.ints a
      subst this
      exact .inr ⟨_, bs, rfl, s.t, q _ fun F => .int _⟩
  · cases hf
theorem cb_max : ClB K (rMax K) cMax := fun H vs ds z al hf Q q => by
  unfold cMax at hf
  split at hf
  · obtain ⟨m, h1, h2⟩ := bindSome hf
    obtain ⟨bs, h3, h4⟩ := bindSome h1
    cases h2
    have := asIs_some h3
    subst this
    obtain ⟨v, rfl, dp⟩ := one_of al
    cases dp with
    | lst s a =>
      have := DpAll.ints a
      subst this
      refine ⟨_, bs, rfl, s, ?_, fun m' hm hle => ?_⟩
      · cases bs with
        | nil => cases h4
        | cons _ _ => exact Nat.succ_pos _
      · rw [maxI_of hm hle h4]; exact q _ fun F => .int _
  · cases hf
theorem cb_min : ClB K (rMin K) cMin := fun H vs ds z al hf Q q => by
  unfold cMin at hf
  split at hf
  · obtain ⟨m, h1, h2⟩ := bindSome hf
    obtain ⟨bs, h3, h4⟩ := bindSome h1
    cases h2
    have := asIs_some h3
    subst this
    obtain ⟨v, rfl, dp⟩ := one_of al
    cases dp with
    | lst s a =>
      have := DpAll.ints a
      subst this
      refine ⟨_, bs, rfl, s, ?_, fun m' hm hle => ?_⟩
      · cases bs with
        | nil => cases h4
        | cons _ _ => exact Nat.succ_pos _
      · rw [minI_of hm hle h4]; exact q _ fun F => .int _
  · cases hf
theorem cb_max2 : ClB K (fun xs H Q => ∃ i j, xs = [.int i, .int j] ∧ Q (.int (if j > i then j else i)) H) cMax2 := fun H vs ds z al hf Q q => by
  unfold cMax2 at hf
  split at hf
  · cases hf
    obtain ⟨v, w, rfl, d1, d2⟩ := two_of al
    cases d1; cases d2
    exact ⟨_, _, rfl, q _ fun F => .int _⟩
  · cases hf
theorem cd_tuple : ClD K (rTupS K) cTuple := fun F H vs ds z s al hf Q q => by
  unfold cTuple at hf
  split at hf
  · cases hf
    obtain ⟨v, rfl, dp⟩ := one_of al
    cases dp with
    | lst sq a => exact ⟨_, _, rfl, .inl ⟨s.seq sq, fun l o hl ho => q _ _ _ (Ext.new s hl) (.tup ⟨o, upd_same, ho⟩ (DpAll.mono (same_upd (s.free hl)) a))⟩⟩
  · cases hf
    obtain ⟨v, rfl, dp⟩ := one_of al
    cases dp with
    | tup sq a => exact ⟨_, _, rfl, .inr ⟨(sq.mono s).t, q _ F H (Ext.refl s) (.tup sq a)⟩⟩
  · cases hf
variable {X : Cx} {a : Expr} {ta : TE} {pos p : Pos} {gx : DE → Option (List D)} {x : Str}
/-- tuple(xs) of a list that is to be read -/
def eTupL (g : DE → Option (List D)) : DE → Option D := fun ρ => (g ρ).bind fun ds => some (.tuple ds)
theorem pd_tupleL (hg : Gl X "tuple") (hm : X.mg "tuple" = none) (ha : PL K X a ta gx) (na : starEach [a] X.env = (false, eval a X.env) :: starEach [] X.env := by rfl) (hpl : (backTo pos (starEach [] X.env)).any (·.1) = false := by rfl) :
    PD K X (.Call (.Name "tuple" p) [a] [] pos) (tCB (rTupS K) (tCons ta tNil)) (eTupL gx) :=
  ⟨fun k => by have := call_tupS (X := X); rw [k] at this; exact pe_callTy this hg hm (by decide +kernel) (pa_cons (ha.pe k) pa_nil na) (by decide) (by decide) na hpl, fun F0 H0 F ρ σ H d rr hgd Q q => by
    obtain ⟨ds, h1, h2⟩ := bindSome hgd
    cases h2
    refine ha.ok F0 H0 F ρ σ H ds rr h1 _ fun v vs F1 H1 x1 s1 p1 => ?_
    exact ⟨v, vs, rfl, .inl ⟨s1, fun l o hl ho => q _ _ _ (x1.trans (Ext.new x1.i hl)) (.tup ⟨o, upd_same, ho⟩ (DpAll.mono (same_upd (x1.i.free hl)) p1))⟩⟩⟩
/-- list(xs) -/
theorem pn_listL (hg : Gl X "list") (hm : X.mg "list" = none) (ha : PL K X a ta gx) (na : starEach [a] X.env = (false, eval a X.env) :: starEach [] X.env := by rfl) (hpl : (backTo pos (starEach [] X.env)).any (·.1) = false := by rfl) :
    PN K X (.Call (.Name "list" p) [a] [] pos) (tCB (fun xs H Q => ∃ p ys, xs = [.ref p] ∧ (SqL K H p ys ∨ SqT K H p ys) ∧ ∀ l, H l = none → Q (.ref l) (upd H l (.lst ys))) (tCons ta tNil)) gx :=
  ⟨fun k => by have := call_list_of (X := X); rw [k] at this; exact pe_callTy this hg hm (by decide +kernel) (pa_cons (ha.pe k) pa_nil na) (by decide) (by decide) na hpl, fun F0 H0 F ρ σ H ds rr h1 Q q => by
    refine ha.ok F0 H0 F ρ σ H ds rr h1 _ fun v vs F1 H1 x1 s1 p1 => ?_
    exact ⟨v, vs, rfl, .inl s1, fun l hl => q _ _ _ _ (x1.trans (Ext.loose x1.i hl)) upd_same (x1.h.free hl) (x1.i.free hl) p1⟩⟩
def asSeq : D → Option (List D)
  | .list ds => some ds
  | .tuple ds => some ds
  | _ => none
theorem pn_listD {g : DE → Option D} (hg : Gl X "list") (hm : X.mg "list" = none) (ha : PD K X a ta g) (na : starEach [a] X.env = (false, eval a X.env) :: starEach [] X.env := by rfl) (hpl : (backTo pos (starEach [] X.env)).any (·.1) = false := by rfl) :
    PN K X (.Call (.Name "list" p) [a] [] pos) (tCB (fun xs H Q => ∃ p ys, xs = [.ref p] ∧ (SqL K H p ys ∨ SqT K H p ys) ∧ ∀ l, H l = none → Q (.ref l) (upd H l (.lst ys))) (tCons ta tNil)) (e1 asSeq g) :=
  ⟨fun k => by have := call_list_of (X := X); rw [k] at this; exact pe_callTy this hg hm (by decide +kernel) (pa_cons (ha.pe k) pa_nil na) (by decide) (by decide) na hpl, fun F0 H0 F ρ σ H ds rr hgd Q q => by
    obtain ⟨d, h1, h2⟩ := bindSome hgd
    refine ha.ok F0 H0 F ρ σ H d rr h1 _ fun v F1 H1 x1 p1 => ?_
    cases d <;> simp only [asSeq] at h2 <;> cases h2
    · cases p1 with
      | lst sq al => exact ⟨_, _, rfl, .inl (x1.i.seq sq), fun l hl => q _ _ _ _ (x1.trans (Ext.loose x1.i hl)) upd_same (x1.h.free hl) (x1.i.free hl) al⟩
    · cases p1 with
      | tup sq al => exact ⟨_, _, rfl, .inr (SqT.mono x1.i sq.t), fun l hl => q _ _ _ _ (x1.trans (Ext.loose x1.i hl)) upd_same (x1.h.free hl) (x1.i.free hl) al⟩⟩
/-- list(range(n)), tuple(range(n)) -/
def rgN (g : DE → Option D) : DE → Option (List D) := fun ρ => ((g ρ).bind asI).bind fun n => if 0 ≤ n ∧ n ≤ 16777216 then some (rangeL 0 n.toNat) else none
theorem rgV_dp {F : Hp} {n : Int} : DpAll K F (rgV 0 n) (rangeL 0 n.toNat) := by
  have e : rgV 0 n = ((List.range n.toNat).map fun (i : Nat) => (0 : Int) + (i : Int)).map V.int := by
    unfold rgV
    rw [List.map_map, Int.sub_zero]
    rfl
  have e2 : rangeL 0 n.toNat = ((List.range n.toNat).map fun (i : Nat) => (0 : Int) + (i : Int)).map PyData.int := by
    unfold rangeL
    rw [List.map_map]
    rfl
  rw [e, e2]
  exact DpAll.ofInts _
variable {g : DE → Option D} {p2 pos2 : Pos}
theorem pn_listR (hc : X.calm = true) (hg : Gl X "list") (hm : X.mg "list" = none) (hg2 : Gl X "range") (hm2 : X.mg "range" = none) (ha : PD K X a ta g) (na : starEach [a] X.env = (false, eval a X.env) :: starEach [] X.env := by rfl)
    (nb : starEach [.Call (.Name "range" p2) [a] [] pos2] X.env = (false, eval (.Call (.Name "range" p2) [a] [] pos2) X.env) :: starEach [] X.env := by rfl) : PN K X (.Call (.Name "list" p) [.Call (.Name "range" p2) [a] [] pos2] [] pos) (tLstRg (tRg1 ta)) (rgN g) :=
  ⟨fun k => pe_listRg hc hg hm (prg_1 hg2 hm2 (ha.pe k) na) nb, fun F0 H0 F ρ σ H ds rr hgd Q q => by
    obtain ⟨n, h1, h2⟩ := bindSome hgd
    obtain ⟨d, h3, h4⟩ := bindSome h1
    have := asI_some h4
    subst this
    split at h2
    · rename_i hn
      cases h2
      refine ha.ok F0 H0 F ρ σ H _ rr h3 _ fun v F1 H1 x1 p1 => ?_
      cases p1
      exact ⟨n, rfl, .of_le (by decide) hn.2 (by decide) hn.1, fun l hl => q _ _ _ _ (x1.trans (Ext.loose x1.i hl)) upd_same (x1.h.free hl) (x1.i.free hl) rgV_dp⟩
    · cases h2⟩
theorem pd_tupR (hc : X.calm = true) (hg : Gl X "tuple") (hm : X.mg "tuple" = none) (hg2 : Gl X "range") (hm2 : X.mg "range" = none) (ha : PD K X a ta g) (na : starEach [a] X.env = (false, eval a X.env) :: starEach [] X.env := by rfl)
    (nb : starEach [.Call (.Name "range" p2) [a] [] pos2] X.env = (false, eval (.Call (.Name "range" p2) [a] [] pos2) X.env) :: starEach [] X.env := by rfl) : PD K X (.Call (.Name "tuple" p) [.Call (.Name "range" p2) [a] [] pos2] [] pos) (tTupRgS (tRg1 ta)) (eTupL (rgN g)) :=
  ⟨fun k => pe_tupRgS hc hg hm (prg_1 hg2 hm2 (ha.pe k) na) nb, fun F0 H0 F ρ σ H d rr hgd Q q => by
    obtain ⟨ds, h0, h00⟩ := bindSome hgd
    cases h00
    obtain ⟨n, h1, h2⟩ := bindSome h0
    obtain ⟨d, h3, h4⟩ := bindSome h1
    have := asI_some h4
    subst this
    split at h2
    · rename_i hn
      cases h2
      refine ha.ok F0 H0 F ρ σ H _ rr h3 _ fun v F1 H1 x1 p1 => ?_
      cases p1
      exact ⟨n, rfl, .of_le (by decide) hn.2 (by decide) hn.1, fun l o hl ho => q _ _ _ (x1.trans (Ext.new x1.i hl)) (.tup ⟨o, upd_same, ho⟩ rgV_dp)⟩
    · cases h2⟩
/-- isinstance(x, T), T a built-in type -/
def isK (T : String) (d : D) : Bool := match d with
  | .none => T == "NoneType"
  | .bool _ => T == "bool" || T == "int"
  | .int _ => T == "int"
  | .str _ => T == "str"
  | .list _ => T == "list"
  | .tuple _ => T == "tuple"
  | .dict _ => T == "dict"
def dIsK (T : String) (d : D) : Option Bool := some (isK T d)
def kindD : D → String
  | .none => "NoneType"
  | .bool _ => "bool"
  | .int _ => "int"
  | .str _ => "str"
  | .list _ => "list"
  | .tuple _ => "tuple"
  | .dict _ => "dict"
def kindOk (T : String) : Bool := (kitB "NoneType" T == some (T == "NoneType")) && (kitB "bool" T == some (T == "bool" || T == "int")) && (kitB "int" T == some (T == "int")) && (kitB "str" T == some (T == "str")) && (kitB "list" T == some (T == "list")) && (kitB "tuple" T == some (T == "tuple"))
theorem sqL_ty {H : Hp} {a : Addr} {xs : List V} (h : SqL K H a xs) : TyX K H (.ref a) (.type "list") := by
  rcases h with (h | ⟨o, h⟩) | ⟨o, its, n, h, hc, _⟩
  · exact .base (.lst h)
  · exact .base (.frz h)
  · exact .kList h hc
theorem sqT_ty {H : Hp} {a : Addr} {xs : List V} (h : SqT K H a xs) : TyX K H (.ref a) (.type "tuple") := by
  rcases h with (h | ⟨o, h⟩) | ⟨o, its, n, h, hc, _⟩
  · exact .base (.tup h)
  · exact .fTuple h
  · exact .kTuple h hc
theorem dp_ty {H : Hp} {v : V} {d : D} (h : Dp K H v d) {T : String} (ok : kindOk T = true) : ∃ t, TyX K H v t ∧ PySem.W.kitOne K t (.type T) = some (isK T d) := by
  unfold kindOk at ok
  simp only [Bool.and_eq_true, beq_iff_eq] at ok
  obtain ⟨⟨⟨⟨⟨h1, h2⟩, h3⟩, h4⟩, h5⟩, h6⟩ := ok
  cases h with
  | non => exact ⟨_, .base .non, kit_ty h1⟩
  | bl b => exact ⟨_, .base (.bl b), kit_ty h2⟩
  | int b => exact ⟨_, .base (.int b), kit_ty h3⟩
  | str b => exact ⟨_, .base (.str b), kit_ty h4⟩
  | lst s _ => exact ⟨_, sqL_ty s, kit_ty h5⟩
  | tup s _ => exact ⟨_, sqT_ty s.t, kit_ty h6⟩
theorem po_isi {T : String} {tn : Str} {tp : Pos} (ok : kindOk T = true) (hg : Gl X "isinstance") (hm : X.mg "isinstance" = none) (hg2 : Gl X tn) (hm2 : X.mg tn = none) (hv : bootBuiltins tn = some (.type T)) (ha : PB K X a ta g)
    (hn : tn ≠ "__name__" := by decide) (hdb : (tn == ("__debug__" : Str)) = false := by decide)
    (na : starEach [a, .Name tn tp] X.env = (false, eval a X.env) :: starEach [.Name tn tp] X.env := by rfl) (nb : starEach [.Name tn tp] X.env = (false, eval (.Name tn tp) X.env) :: starEach [] X.env := by rfl) (hpl : (backTo pos (starEach [.Name tn tp] X.env)).any (·.1) = false := by rfl) :
    PO' K X (.Call (.Name "isinstance" p) [a, .Name tn tp] [] pos) (tCB (rIsi K) (tCons ta (tCons (tC (.ty T)) tNil))) (e1 (dIsK T) g) :=
  ⟨fun k => by
      have h1 := call_isi (X := X)
      rw [k] at h1
      exact pe_callB h1 hg hm (by decide +kernel) (pa_cons (ha.pe k) (pa_cons (pe_bltn hg2 hm2 hv rfl hn hdb) pa_nil nb) na) (by decide) (by decide) na hpl, fun F0 H0 F ρ σ H b rr hgd Q q => by
    obtain ⟨d, h1, h2⟩ := bindSome hgd
    cases h2
    refine ha.ok F0 H0 F ρ σ H d rr h1 _ fun v F1 H1 x1 p1 => ?_
    obtain ⟨t, ty, kt⟩ := dp_ty p1 ok
    exact ⟨v, .ty T, t, .type T, _, rfl, .ty T, ty, kt, q F1 H1 x1⟩⟩
end
end DL

namespace DL
open PySem PySem.Spec L2

/-! ### x.index(y), x.count(y): lists and tuples of flat things -/
section
variable {X : Cx}
def rTIndex (K : PySem.W.Frag) : V → List V → Hp → VK → Prop := fun x xs H Q => ∃ (a : Addr) (ys : List V) (y : V) (j : Nat) (z : V), x = V.ref a ∧ xs = [y] ∧ SqT K H a ys ∧ flatV y = true ∧ ys.all flatV = true ∧ ys[j]? = some z ∧ eqV z y = true ∧
  (∀ (m : Nat) (w : V), m < j → ys[m]? = some w → eqV w y = false) ∧ Q (.int (j : Nat)) H
theorem atEq {ys : List V} {us : List Value} (r : Vals ys us) (f : ys.all flatV = true) {m : Nat} (hm : m < us.toArray.size) (y : V) : ∃ w, ys[m]? = some w ∧ eqU y us.toArray[m] = eqV w y := by
  have h1 : m < us.length := by simpa using hm
  have h2 : m < ys.length := by rw [r.length]; exact h1
  have h3 : ys[m]? = some ys[m] := List.getElem?_eq_getElem h2
  obtain ⟨u, hu, ru⟩ := r.get h3
  obtain ⟨_, hv⟩ := List.getElem?_eq_some_iff.mp hu
  refine ⟨ys[m], h3, ?_⟩
  have e1 : us.toArray[m] = u := by simpa using hv
  rw [e1, eqU_of ru (flat_at f h3)]
theorem mt_tIndex : MtR X "tuple.index" (rTIndex X.K) := by
  intro pins s σ H x xs v us Q I rx rxs h
  obtain ⟨a, ys, y, j, z, rfl, rfl, hs, fy, fys, hz, hzj, hno, q⟩ := h
  cases rx
  obtain ⟨uy, rfl, ry⟩ := vals1 rxs
  obtain ⟨ws, rv, ⟨⟨cls, dd, data, sl⟩, ho, hc, n, hd⟩, hlen⟩ := I.tuple hs
  simp only at hc hd
  subst hc hd
  have hj : j < ws.toArray.size := by
    rw [List.size_toArray, ← rv.length]
    exact (List.getElem?_eq_some_iff.mp hz).1
  have hit : eqU y ws.toArray[j] = true := by
    obtain ⟨w, h1, h2⟩ := atEq rv fys hj y
    rw [hz] at h1
    cases h1
    rw [h2]; exact hzj
  have hpre : ∀ m (hm : m < ws.toArray.size), m < j → eqU y ws.toArray[m] = false := fun m hm hmj => by
    obtain ⟨w, h1, h2⟩ := atEq rv fys hm y
    rw [h2]; exact hno m w hmj h1
  exact PySem.call_meets PySem.F.slot_tuple_index ⟨_, ho, rfl⟩ PySem.F.entry_tuple_index (PySem.F.args_tuple_index_2 _ _) (TI.tuple_indexAt a ws.toArray n dd sl uy (eqU y) j hj hit hpre)
    ⟨ho, fun u hu => mem_eqAt ry fy rv fys u (by simpa using hu), ⟨.int (j : Nat), H, I.tok _, ⟨_, rfl⟩, q⟩⟩
theorem countU {y : V} : ∀ {ys : List V} {us : List Value}, Vals ys us → ys.all flatV = true → us.countP (eqU y) = ys.countP fun w => eqV w y
  | _, _, .nil, _ => rfl
  | w :: ys, u :: us, .cons r t, f => by
    rw [List.all_cons, Bool.and_eq_true] at f
    rw [List.countP_cons, List.countP_cons, countU t f.2, eqU_of r f.1]
def rCount (K : PySem.W.Frag) (tup : Bool) : V → List V → Hp → VK → Prop := fun x xs H Q => ∃ (a : Addr) (ys : List V) (y : V), x = V.ref a ∧ xs = [y] ∧ (if tup = true then SqT K H a ys else SqL K H a ys) ∧ flatV y = true ∧ ys.all flatV = true ∧ Q (.int (ys.countP fun w => eqV w y : Nat)) H
theorem mt_tCount : MtR X "tuple.count" (rCount X.K true) := by
  intro pins s σ H x xs v us Q I rx rxs h
  obtain ⟨a, ys, y, rfl, rfl, hs, fy, fys, q⟩ := h
  cases rx
  obtain ⟨uy, rfl, ry⟩ := vals1 rxs
  obtain ⟨ws, rv, ⟨⟨cls, dd, data, sl⟩, ho, hc, n, hd⟩, hlen⟩ := I.tuple hs
  simp only at hc hd
  subst hc hd
  refine PySem.call_meets PySem.F.slot_tuple_count ⟨_, ho, rfl⟩ PySem.F.entry_tuple_count (PySem.F.args_tuple_count_2 _ _) (SeqAt.tuple_countAt a ws.toArray n dd sl uy (eqU y))
    ⟨ho, fun u hu => mem_eqAt ry fy rv fys u (by simpa using hu), ⟨.int (ys.countP fun w => eqV w y : Nat), H, I.tok _, ⟨s.toks, ?_⟩, q⟩⟩
  show Value.int ((ws.toArray.toList.countP (eqU y) : Nat) : Int) s.toks = _
  rw [show ws.toArray.toList = ws by simp, countU rv fys]
theorem mt_lCount : MtR X "list.count" (rCount X.K false) := by
  intro pins s σ H x xs v us Q I rx rxs h
  obtain ⟨a, ys, y, rfl, rfl, hs, fy, fys, q⟩ := h
  cases rx
  obtain ⟨uy, rfl, ry⟩ := vals1 rxs
  obtain ⟨ws, rv, ⟨⟨cls, dd, data, sl⟩, n, ho, hc, hdn, hd⟩, hlen⟩ := I.list hs
  simp only at hc hd
  subst hc hd
  refine PySem.call_meets PySem.F.slot_list_count ⟨_, ho, rfl⟩ PySem.F.entry_list_count (PySem.F.args_list_count_2 _ _) (SeqAt.list_countAt a ws.toArray n dd sl uy (eqU y))
    ⟨ho, fun u hu => mem_eqAt ry fy rv fys u (by simpa using hu), ⟨.int (ys.countP fun w => eqV w y : Nat), H, I.tok _, ⟨s.toks, ?_⟩, q⟩⟩
  show Value.int ((ws.toArray.toList.countP (eqU y) : Nat) : Int) s.toks = _
  rw [show ws.toArray.toList = ws by simp, countU rv fys]
/-- a method that lists and tuples share, one argument -/
def tLT (K : PySem.W.Frag) (rl rt : V → List V → Hp → VK → Prop) (to : TE) (t : TA) : TE := fun σ H Q => to σ H fun x H1 => (∃ p, x = .ref p ∧ (∃ ys, SqL K H1 p ys) ∧ t σ H1 fun vs H2 => rl x vs H2 Q) ∨ (∃ p, x = .ref p ∧ (∃ ys, TupS H1 p ys) ∧ t σ H1 fun vs H2 => rt x vs H2 Q)
variable {o e : Expr} {to : TE} {t : TA} {name : Str} {apos cpos : Pos} {il it : String} {rl rt : V → List V → Hp → VK → Prop}
theorem pe_lt (sl : PySem.Slot "list" name il) (st : PySem.Slot "tuple" name it) (hyl : typeOf (.builtin il) = pure (.type "method_descriptor")) (hyt : typeOf (.builtin it) = pure (.type "method_descriptor")) (hml : MtR X il rl) (hmt : MtR X it rt) (ho : PE X o to) (ha : PA X [e] t)
    (hbase : attributeBase o name X.env (eval o X.env) = eval o X.env)
    (hfew : ((backTo cpos (starEach [e] X.env)).all (fun z => !z.1) && (backToKw cpos (keywordEach [] X.env)).all (fun z => z.1.isSome) && decide (([e] : List Expr).length + ([] : List Keyword).length + (if ([] : List Keyword).isEmpty then 0 else 1) < 30)) = true)
    (hline : (apos.endLine == cpos.line) = true) (hs : starEach [e] X.env = (false, eval e X.env) :: starEach [] X.env) (hplain : (backTo cpos (starEach [] X.env)).any (·.1) = false) :
    PE X (.Call (.Attribute o name apos) [e] [] cpos) (tLT X.K rl rt to t) := by
  refine ⟨fun pins s σ H Q I h => ?_⟩
  refine PySem.wpAny_Call_method_late hbase hfew hline rfl (thn (ho.run pins s σ H _ I h) fun v s1 ⟨x, H1, I1, r1, q1⟩ => ?_)
  have args : ∀ {id : String} {r : V → List V → Hp → VK → Prop}, MtR X id r → t σ H1 (fun vs H2 => r x vs H2 Q) →
      wpAny (model X.prog X.w) X.A (spliced (backTo cpos (starEach [e] X.env))) (fun us s2 => wpAny (model X.prog X.w) X.A (call (.builtin id) (v :: us)) (EP X pins σ Q) X.xe s2) X.xe s1 := fun {id r} hm qt =>
    thn (ha.run cpos pins s1 σ H1 _ I1 qt) fun us s2 ⟨vs, H2, I2, r2, q2⟩ => hm pins s2 σ H2 x vs v us Q I2 r1 r2 q2
  have no : (false || (backTo cpos (starEach [] X.env)).any (·.1)) = false := by rw [hplain]; rfl
  rcases q1 with ⟨p, rfl, ⟨ys, hq⟩, qt⟩ | ⟨p, rfl, ⟨ys, o', hq, hdn⟩, qt⟩
  · cases r1
    obtain ⟨ws, rv, ⟨ob, n, ho, hc, hdn, hd⟩, hlen⟩ := I1.list hq
    refine ⟨"list", il, PySem.F.plainAttrs_list, sl, hyl, ⟨ob, ho, hc⟩, fun a z => by cases z; exact ⟨ob, ho, hdn⟩, ?_⟩
    have A1 := args hml qt
    rw [hs] at A1 ⊢
    exact PySem.Calls.callWith_builtin no (PySem.Calls.evalArgs_plain A1)
  · cases r1
    obtain ⟨hg, hz, ws, rv, ⟨ob, hob, hc, n, hd⟩⟩ := I1.hok p _ hq
    have e1 : ob = o' := Option.some.inj (hob.symm.trans hg)
    subst e1
    refine ⟨"tuple", it, PySem.F.plainAttrs_tuple, st, hyt, ⟨ob, hg, hc⟩, fun a z => by cases z; exact ⟨ob, hg, hdn⟩, ?_⟩
    have A1 := args hmt qt
    rw [hs] at A1 ⊢
    exact PySem.Calls.callWith_builtin no (PySem.Calls.evalArgs_plain A1)
end
def asFlat (d : D) : Option (List D) := (asSeq d).bind fun ds => if ds.all flatD = true then some ds else none
def dIndex (d e : D) : Option D := (asFlat d).bind fun ds => if flatD e = true then (ds.findIdx? fun z => PyData.eqv z e).bind fun j => some (.int (j : Nat)) else none
def dCount (d e : D) : Option D := (asFlat d).bind fun ds => if flatD e = true then some (.int (ds.countP fun z => PyData.eqv z e : Nat)) else none
section
variable {K : PySem.W.Frag} {X : Cx} {o e : Expr} {to te : TE} {apos cpos : Pos} {go ge : DE → Option D}
theorem findIdx_some {α : Type} {p : α → Bool} : ∀ {l : List α} {j : Nat}, l.findIdx? p = some j → ∃ z, l[j]? = some z ∧ p z = true ∧ ∀ (m : Nat) w, m < j → l[m]? = some w → p w = false := fun {l j} h => by
  rw [List.findIdx?_eq_some_iff_getElem] at h
  obtain ⟨h1, h2, h3⟩ := h
  refine ⟨l[j], List.getElem?_eq_getElem h1, h2, fun m w hm hw => ?_⟩
  obtain ⟨h4, h5⟩ := List.getElem?_eq_some_iff.mp hw
  have := h3 m hm
  rw [h5] at this
  simpa using this
theorem sd_lt {rl rt : V → List V → Hp → VK → Prop} {f : D → D → Option D} (ho : Sb K to go) (he : Sb K te ge)
    (hl : ∀ (H : Hp) a vs ds d v z (Q : VK), SqL K H a vs → DpAll K H vs ds → Dp K H v d → f (.list ds) d = some z → (∀ u, (∀ F, Dp K F u z) → Q u H) → rl (.ref a) [v] H Q)
    (ht : ∀ (H : Hp) a vs ds d v z (Q : VK), SqT K H a vs → DpAll K H vs ds → Dp K H v d → f (.tuple ds) d = some z → (∀ u, (∀ F, Dp K F u z) → Q u H) → rt (.ref a) [v] H Q)
    (hf : ∀ d e z, f d e = some z → ∃ ds, d = .list ds ∨ d = .tuple ds) : Sd K (tLT K rl rt to (tCons te tNil)) (e2 f go ge) := fun F0 H0 F ρ σ H z rr hg Q q => by
  obtain ⟨d1, h1, h2⟩ := bindSome hg
  obtain ⟨d2, h3, h4⟩ := bindSome h2
  refine ho F0 H0 F ρ σ H d1 rr h1 _ fun v F1 H1 x1 p1 => ?_
  obtain ⟨ds, rfl | rfl⟩ := hf _ _ _ h4
  · cases p1 with
    | lst sq al =>
      refine .inl ⟨_, rfl, ⟨_, sq⟩, ?_⟩
      refine he F0 H0 F1 ρ σ H1 d2 (rr.ext x1) h3 _ fun u F2 H2 x2 p2 => ?_
      exact hl H2 _ _ ds d2 u z Q (x2.h.seq sq) (DpAll.mono x2.h al) p2 h4 fun w hw => q w F2 H2 (x1.trans x2) (hw F2)
  · cases p1 with
    | tup sq al =>
      refine .inr ⟨_, rfl, ⟨_, sq⟩, ?_⟩
      refine he F0 H0 F1 ρ σ H1 d2 (rr.ext x1) h3 _ fun u F2 H2 x2 p2 => ?_
      exact ht H2 _ _ ds d2 u z Q (sq.mono x2.h).t (DpAll.mono x2.h al) p2 h4 fun w hw => q w F2 H2 (x1.trans x2) (hw F2)
theorem asFlat_seq {d : D} {ds : List D} (h : asFlat d = some ds) : (d = .list ds ∨ d = .tuple ds) ∧ ds.all flatD = true := by
  obtain ⟨es, h1, h2⟩ := bindSome h
  split at h2
  · cases h2
    cases d <;> simp only [asSeq] at h1 <;> cases h1
    · exact ⟨.inl rfl, by assumption⟩
    · exact ⟨.inr rfl, by assumption⟩
  · cases h2
theorem idx_core {H : Hp} {vs : List V} {ds : List D} {v : V} {d z : D} {dd : D} (hdd : dd = .list ds ∨ dd = .tuple ds) (al : DpAll K H vs ds) (dp : Dp K H v d) (h : dIndex dd d = some z) :
    ∃ (j : Nat) (w : V), flatV v = true ∧ vs.all flatV = true ∧ vs[j]? = some w ∧ eqV w v = true ∧ (∀ (m : Nat) (w : V), m < j → vs[m]? = some w → eqV w v = false) ∧ z = .int (j : Nat) := by
  obtain ⟨es, h1, h2⟩ := bindSome h
  obtain ⟨h3, h4⟩ := asFlat_seq h1
  have : es = ds := by rcases hdd with rfl | rfl <;> rcases h3 with h3 | h3 <;> cases h3 <;> rfl
  subst this
  split at h2
  · rename_i hfe
    obtain ⟨j, h5, h6⟩ := bindSome h2
    cases h6
    obtain ⟨y, h7, h8, h9⟩ := findIdx_some h5
    obtain ⟨rfl, f1⟩ := flat_one dp hfe
    obtain ⟨rfl, f2⟩ := flat_all al h4
    have fl : ∀ (m : Nat) (w : D), es[m]? = some w → flatD w = true := fun m w hw => List.all_eq_true.mp h4 w (List.mem_of_getElem? hw)
    refine ⟨j, toV y, f1, f2, by rw [List.getElem?_map, h7]; rfl, by rw [eqV_toV (fl _ _ h7) hfe]; exact h8, fun m w hm hw => ?_, rfl⟩
    rw [List.getElem?_map] at hw
    cases hw2 : es[m]? with
    | none => rw [hw2] at hw; cases hw
    | some w2 =>
      rw [hw2] at hw
      cases hw
      rw [eqV_toV (fl _ _ hw2) hfe]
      exact h9 m w2 hm hw2
  · cases h2
theorem cnt_core {H : Hp} {vs : List V} {ds : List D} {v : V} {d z : D} {dd : D} (hdd : dd = .list ds ∨ dd = .tuple ds) (al : DpAll K H vs ds) (dp : Dp K H v d) (h : dCount dd d = some z) :
    flatV v = true ∧ vs.all flatV = true ∧ z = .int (vs.countP fun w => eqV w v : Nat) := by
  obtain ⟨es, h1, h2⟩ := bindSome h
  obtain ⟨h3, h4⟩ := asFlat_seq h1
  have : es = ds := by rcases hdd with rfl | rfl <;> rcases h3 with h3 | h3 <;> cases h3 <;> rfl
  subst this
  split at h2
  · rename_i hfe
    cases h2
    obtain ⟨rfl, f1⟩ := flat_one dp hfe
    obtain ⟨rfl, f2⟩ := flat_all al h4
    refine ⟨f1, f2, ?_⟩
    rw [List.countP_map]
    congr 2
    apply List.countP_congr
    intro w hw
    show _ ↔ eqV (toV w) (toV d) = true
    rw [eqV_toV (List.all_eq_true.mp h4 w hw) hfe]
  · cases h2
theorem idx_kind {f : D → D → Option D} (hf : f = dIndex ∨ f = dCount) : ∀ d e z, f d e = some z → ∃ ds, d = .list ds ∨ d = .tuple ds := fun d e z h => by
  rcases hf with rfl | rfl <;>
  · obtain ⟨es, h1, _⟩ := bindSome h
    exact ⟨es, (asFlat_seq h1).1⟩
theorem pd_index (ho : PB K X o to go) (he : PB K X e te ge) (hbase : attributeBase o "index" X.env (eval o X.env) = eval o X.env := by rfl)
    (hfew : ((backTo cpos (starEach [e] X.env)).all (fun z => !z.1) && (backToKw cpos (keywordEach [] X.env)).all (fun z => z.1.isSome) && decide (([e] : List Expr).length + ([] : List Keyword).length + (if ([] : List Keyword).isEmpty then 0 else 1) < 30)) = true := by rfl)
    (hline : (apos.endLine == cpos.line) = true := by rfl) (hs : starEach [e] X.env = (false, eval e X.env) :: starEach [] X.env := by rfl) (hplain : (backTo cpos (starEach [] X.env)).any (·.1) = false := by rfl) :
    PD K X (.Call (.Attribute o "index" apos) [e] [] cpos) (tLT K (rIndex K) (rTIndex K) to (tCons te tNil)) (e2 dIndex go ge) :=
  ⟨fun k => by
      have := pe_lt (X := X) PySem.F.slot_list_index PySem.F.slot_tuple_index PySem.F.type_list_index PySem.F.type_tuple_index mt_index mt_tIndex (ho.pe k) (pa_cons (he.pe k) pa_nil hs) hbase hfew hline hs hplain
      rw [k] at this
      exact this,
   sd_lt ho.ok he.ok (fun H a vs ds d v z Q sq al dp h q => by
      obtain ⟨j, w, f1, f2, h1, h2, h3, rfl⟩ := idx_core (.inl rfl) al dp h
      exact ⟨a, vs, v, j, w, rfl, rfl, sq, f1, f2, h1, h2, h3, q _ fun F => .int _⟩) (fun H a vs ds d v z Q sq al dp h q => by
      obtain ⟨j, w, f1, f2, h1, h2, h3, rfl⟩ := idx_core (.inr rfl) al dp h
      exact ⟨a, vs, v, j, w, rfl, rfl, sq, f1, f2, h1, h2, h3, q _ fun F => .int _⟩) (idx_kind (.inl rfl))⟩
theorem pd_count (ho : PB K X o to go) (he : PB K X e te ge) (hbase : attributeBase o "count" X.env (eval o X.env) = eval o X.env := by rfl)
    (hfew : ((backTo cpos (starEach [e] X.env)).all (fun z => !z.1) && (backToKw cpos (keywordEach [] X.env)).all (fun z => z.1.isSome) && decide (([e] : List Expr).length + ([] : List Keyword).length + (if ([] : List Keyword).isEmpty then 0 else 1) < 30)) = true := by rfl)
    (hline : (apos.endLine == cpos.line) = true := by rfl) (hs : starEach [e] X.env = (false, eval e X.env) :: starEach [] X.env := by rfl) (hplain : (backTo cpos (starEach [] X.env)).any (·.1) = false := by rfl) :
    PD K X (.Call (.Attribute o "count" apos) [e] [] cpos) (tLT K (rCount K false) (rCount K true) to (tCons te tNil)) (e2 dCount go ge) :=
  ⟨fun k => by
      have := pe_lt (X := X) PySem.F.slot_list_count PySem.F.slot_tuple_count PySem.F.type_list_count PySem.F.type_tuple_count mt_lCount mt_tCount (ho.pe k) (pa_cons (he.pe k) pa_nil hs) hbase hfew hline hs hplain
      rw [k] at this
      exact this,
   sd_lt ho.ok he.ok (fun H a vs ds d v z Q sq al dp h q => by
      obtain ⟨f1, f2, rfl⟩ := cnt_core (.inl rfl) al dp h
      exact ⟨a, vs, v, rfl, rfl, by rw [if_neg Bool.false_ne_true]; exact sq, f1, f2, q _ fun F => .int _⟩) (fun H a vs ds d v z Q sq al dp h q => by
      obtain ⟨f1, f2, rfl⟩ := cnt_core (.inr rfl) al dp h
      exact ⟨a, vs, v, rfl, rfl, by rw [if_pos rfl]; exact sq, f1, f2, q _ fun F => .int _⟩) (idx_kind (.inr rfl))⟩
end

/-! ### turns, rest = divmod(..) -/
section
variable {K : PySem.W.Frag} {X : Cx} {W : WD} {a b : Expr} {ta tb : TE} {ga gb : DE → Option D} {pos p pos2 : Pos}
def eDivmod (g h : DE → Option D) : DE → Option D := e2 (fun d e => cDivmod [d, e]) g h
theorem psd_divmod {tg : Expr} {u : TG} {is : List Nat} {h : D → DE → Option DE} (hg : Gl X "divmod") (hm : X.mg "divmod" = none) (ha : PD K X a ta ga) (hb : PD K X b tb gb) (ht : PGd K (Dw K) X is tg u h)
    (na : starEach [a, b] X.env = (false, eval a X.env) :: starEach [b] X.env := by rfl) (nb : starEach [b] X.env = (false, eval b X.env) :: starEach [] X.env := by rfl) (hpl : (backTo pos2 (starEach [b] X.env)).any (·.1) = false := by rfl)
    (hs : swapsWithSole [tg] (.Call (.Name "divmod" p) [a, b] [] pos2) pos.line X.env = pure false := by rfl) (hw : swappedStores [tg] (.Call (.Name "divmod" p) [a, b] [] pos2) X.env = pure none := by rfl)
    (h1 : (assignEach [tg] X.env).map (·.2) = [assign tg X.env] := by rfl) : PSd K X W (.Assign [tg] (.Call (.Name "divmod" p) [a, b] [] pos2) pos)
      (tAsg (tCB (fun xs H Q => ∃ i j, xs = [.int i, .int j] ∧ CDiv i j ∧ ∀ p, H p = none → Q (.ref p) (upd H p (.tup [.int (i / j), .int (i % j)]))) (tCons ta (tCons tb tNil))) u) (sAsg h (eDivmod ga gb)) :=
  ⟨fun k => ps_asg (pe_callB call_divmod hg hm (by decide +kernel) (pa_cons (ha.pe k) (pa_cons (hb.pe k) pa_nil nb) na) (by decide) (by decide) na hpl) (ht.pg k) hs hw h1, fun F0 H0 F ρ σ H E r q => by
    unfold sAsg at q
    cases hd : (eDivmod ga gb ρ).bind fun d => h d ρ with
    | none => simp only [hd] at q; exact q.elim
    | some ρ' =>
      simp only [hd] at q
      obtain ⟨d, h1, h2⟩ := bindSome hd
      obtain ⟨d1, h3, h4⟩ := bindSome h1
      obtain ⟨d2, h5, h6⟩ := bindSome h4
      refine ha.ok F0 H0 F ρ σ H d1 r h3 _ fun v F1 H1 x1 p1 => ?_
      refine hb.ok F0 H0 F1 ρ σ H1 d2 (r.ext x1) h5 _ fun u F2 H2 x2 p2 => ?_
      simp only [cDivmod] at h6
      split at h6
      · rename_i heq
        cases heq
        cases p1
        cases p2
        split at h6
        · cases h6
          refine ⟨_, _, rfl, by assumption, fun p hp => ?_⟩
          exact ht.ok F0 H0 _ ρ ρ' σ _ _ _ (((r.ext x1).ext x2).ext (Ext.new x2.i hp)) ⟨p, _, _, rfl, rfl, SqT.of upd_same, .cons (.int _) (.cons (.int _) .nil)⟩ h2 _ fun σ' r' _ => q _ σ' _ r'
        · cases h6
      · cases h6⟩
end

/-! ### enumerate, zip -/
section
variable {K : PySem.W.Frag} {X : Cx} {a b : Expr} {ta tb : TE} {pos p tpos : Pos} {elts : List Expr} {kk : Nat}
def enumL (ds : List D) : List D := (List.range ds.length).zipWith (fun (i : Nat) d => PyData.tuple [.int (i : Int), d]) ds
theorem enumL_get {ds : List D} {i : Nat} {z : D} (h : (enumL ds)[i]? = some z) : ∃ d, ds[i]? = some d ∧ z = .tuple [.int (i : Int), d] := by
  unfold enumL at h
  rw [List.getElem?_zipWith] at h
  by_cases hi : i < ds.length
  · rw [List.getElem?_range hi, List.getElem?_eq_getElem hi] at h
    cases h
    exact ⟨_, List.getElem?_eq_getElem hi, rfl⟩
  · rw [List.getElem?_eq_none (by rw [List.length_range]; omega)] at h
    cases h
theorem enumL_len (ds : List D) : (enumL ds).length = ds.length := by
  unfold enumL
  rw [List.length_zipWith, List.length_range, Nat.min_self]
def dEnum (d : D) : Option (List D) := (asL d).bind fun ds => some (enumL ds)
theorem pid_enum {g : DE → Option D} (hg : Gl X "enumerate") (hm : X.mg "enumerate" = none) (ha : PD K X a ta g) (na : starEach [a] X.env = (false, eval a X.env) :: starEach [] X.env := by rfl) (hs : starEach [a] X.env = [(false, eval a X.env)] := by rfl) :
    PId K (Dw K) X (.Tuple elts kk tpos) (.Call (.Name "enumerate" p) [a] [] pos) (iEnum K (tCons ta tNil)) (e1 dEnum g) :=
  ⟨fun k => by
      have := pi_enum (elts := elts) (kk := kk) (tpos := tpos) (p := p) (pos := pos) hg hm (pa_cons (ha.pe k) pa_nil na) hs
      rw [k] at this
      exact this, fun F0 H0 F ρ σ H zs r hgd Q q => by
    obtain ⟨d, h1, h2⟩ := bindSome hgd
    obtain ⟨ds, h3, h4⟩ := bindSome h2
    cases h4
    refine ha.ok F0 H0 F ρ σ H d r h1 _ fun v F' H' ex dp => ?_
    cases d <;> simp only [asL] at h3 <;> cases h3
    cases dp with
    | @lst a vs _ sq al =>
      refine ⟨a, vs, rfl, ex.i.seq sq, q _ F' H' ex fun i F H s1 s2 => ?_⟩
      have sq' : SqL K H a vs := (s1.trans s2).seq sq
      refine ⟨fun z hz => ?_, fun hz => ⟨vs, sq', ?_⟩⟩
      · obtain ⟨d, hd, rfl⟩ := enumL_get hz
        obtain ⟨v, hv, dp⟩ := DpAll.get' al hd
        refine ⟨⟨vs, v, sq', hv⟩, fun x H'' y => ?_⟩
        obtain ⟨T, w, rfl, hT, rfl, hw⟩ := y
        have := hw vs sq'
        rw [hv] at this
        cases this
        exact ⟨_, Ext.new s2 hT, T, _, _, rfl, rfl, SqT.of upd_same, .cons (.int _) (.cons (Dp.mono (s1.trans (same_upd (s2.free hT))) dp) .nil)⟩
      · rw [DpAll.length al, ← enumL_len]; exact List.getElem?_eq_none_iff.mp hz⟩
def zipL (ds es : List D) : List D := ds.zipWith (fun d e => PyData.tuple [d, e]) es
def dZip (d e : D) : Option (List D) := (asL d).bind fun ds => (asL e).bind fun es => some (zipL ds es)
theorem pid_zip {g h : DE → Option D} (hg : Gl X "zip") (hm : X.mg "zip" = none) (ha : PD K X a ta g) (hb : PD K X b tb h) (na : starEach [a, b] X.env = (false, eval a X.env) :: starEach [b] X.env := by rfl) (nb : starEach [b] X.env = (false, eval b X.env) :: starEach [] X.env := by rfl)
    (hpl : (backTo pos (starEach [b] X.env)).any (·.1) = false := by rfl) :
    PId K (Dw K) X (.Tuple elts kk tpos) (.Call (.Name "zip" p) [a, b] [] pos) (iZip K (tCons ta (tCons tb tNil))) (e2 dZip g h) :=
  ⟨fun k => by
      have := pi_zip (elts := elts) (kk := kk) (tpos := tpos) (p := p) (pos := pos) hg hm (pa_cons (ha.pe k) (pa_cons (hb.pe k) pa_nil nb) na) na hpl
      rw [k] at this
      exact this, fun F0 H0 F ρ σ H zs r hgd Q q => by
    obtain ⟨d, h1, h2⟩ := bindSome hgd
    obtain ⟨d', h3, h4⟩ := bindSome h2
    obtain ⟨ds, h5, h6⟩ := bindSome h4
    obtain ⟨es, h7, h8⟩ := bindSome h6
    cases h8
    refine ha.ok F0 H0 F ρ σ H d r h1 _ fun v F1 H1 ex dp => ?_
    refine hb.ok F0 H0 F1 ρ σ H1 d' (r.ext ex) h3 _ fun v F' H' ex2 dp2 => ?_
    cases d <;> simp only [asL] at h5 <;> cases h5
    cases d' <;> simp only [asL] at h7 <;> cases h7
    cases dp with
    | @lst a vs _ sq al =>
      cases dp2 with
      | @lst b ws _ sq2 al2 =>
        have al' := DpAll.mono ex2.f al
        refine ⟨a, b, vs, ws, rfl, (ex2.f.trans ex2.i).seq sq, ex2.i.seq sq2, q _ F' H' (ex.trans ex2) fun i F H s1 s2 => ?_⟩
        have sq' : SqL K H a vs := ((ex2.f.trans s1).trans s2).seq sq
        have sq2' : SqL K H b ws := (s1.trans s2).seq sq2
        refine ⟨fun z hz => ?_, fun hz => ⟨vs, ws, sq', sq2', ?_⟩⟩
        · unfold zipL at hz
          rw [List.getElem?_zipWith] at hz
          cases hd : ds[i]? with
          | none => rw [hd] at hz; cases hz
          | some d1 =>
            cases he : es[i]? with
            | none => rw [hd, he] at hz; cases hz
            | some d2 =>
              rw [hd, he] at hz
              cases hz
              obtain ⟨v1, hv1, dp1⟩ := DpAll.get' al' hd
              obtain ⟨v2, hv2, dp2⟩ := DpAll.get' al2 he
              refine ⟨⟨vs, ws, v1, v2, sq', sq2', hv1, hv2⟩, fun x H'' y => ?_⟩
              obtain ⟨T, w1, w2, rfl, hT, rfl, hw1, hw2⟩ := y
              have e1 := hw1 vs sq'
              have e2 := hw2 ws sq2'
              rw [hv1] at e1
              rw [hv2] at e2
              cases e1
              cases e2
              have sT := s1.trans (same_upd (s2.free hT) (o := .tup [v1, v2]))
              exact ⟨_, Ext.new s2 hT, T, _, _, rfl, rfl, SqT.of upd_same, .cons (Dp.mono sT dp1) (.cons (Dp.mono sT dp2) .nil)⟩
        · have := List.getElem?_eq_none_iff.mp hz
          unfold zipL at this
          rw [List.length_zipWith] at this
          rw [DpAll.length al, DpAll.length al2]
          omega⟩
end
end DL

/-! zip of a list or a tuple with a list or a tuple (turned from the library's proofs for two tuples) -/
namespace DL
open PySem PySem.Spec PyProof.Rows L2 RZ
section
variable {prog : Program} {w : World} {A : Around} {E : Value → Shared → Prop} {s : Shared}
/-- true: a tuple; false: a list -/
def IsSq (b : Bool) (h : Heap) (l : Addr) (xs : Array Value) : Prop := match b with
  | true => h.IsTuple l xs
  | false => h.IsList l xs
def IsIt (b : Bool) (h : Heap) (it l : Addr) (i : Nat) : Prop := match b with
  | true => h.IsTupleIter it l i
  | false => h.IsListIter it l i
theorem IsSq.extBut {b : Bool} {h h' : Heap} {a c items} (x : IsSq b h a items) (hs : Heap.ExtBut c h h') (hab : a ≠ c) : IsSq b h' a items := by
  cases b
  · exact Heap.IsList.extBut x hs hab
  · exact Heap.IsTuple.extBut x hs hab
theorem IsIt.extBut {b : Bool} {h h' : Heap} {a c l i} (x : IsIt b h a l i) (hs : Heap.ExtBut c h h') (hab : a ≠ c) : IsIt b h' a l i := by
  cases b
  · exact Heap.IsListIter.extBut x hs hab
  · exact Heap.IsTupleIter.extBut x hs hab
theorem IsIt.at {b : Bool} {h h' : Heap} {a l i} (x : IsIt b h a l i) (e : ∀ o, h.get? a = some o → h'.get? a = some o) : IsIt b h' a l i := by
  cases b
  · exact Heap.IsListIter.at x e
  · exact Heap.IsTupleIter.at x e
theorem IsIt.obj {b : Bool} {h : Heap} {a l : Addr} {i : Nat} (x : IsIt b h a l i) : ∃ o : Obj, h.get? a = some o ∧ ∀ v, o.data ≠ .cell v := by
  cases b
  · obtain ⟨o, e, _, d⟩ := x
    exact ⟨o, e, fun v q => by rw [d] at q; cases q⟩
  · obtain ⟨o, e, _, d⟩ := x
    exact ⟨o, e, fun v q => by rw [d] at q; cases q⟩
theorem nextK_item {b : Bool} {it l : Addr} {i : Nat} {items : Array Value} {x : Value} {Q : Value → Shared → Prop} (hit : IsIt b s.heap it l i) (hl : IsSq b s.heap l items) (hx : items[i]? = some x)
    (hQ : ∀ h', IsIt b h' it l (i + 1) → Heap.SameBut it s.heap h' → Q x { s with heap := h' }) : wpAny (model prog w) A (Builtin.SmallTypes.nextOf (.ref it)) Q E s := by
  cases b
  · exact wpAny_nextOf_list_item hit hl hx hQ
  · exact nextOf_tuple_item hit hl hx hQ
theorem nextK_end {b : Bool} {it l : Addr} {i : Nat} {items : Array Value} {Q : Value → Shared → Prop} (hh : A.handled = none) (hit : IsIt b s.heap it l i) (hl : IsSq b s.heap l items) (hx : items[i]? = none)
    (hE : ∀ h' e, Heap.ExtBut it s.heap h' → (∃ o, h'.get? e = some o ∧ o.cls = .type "StopIteration") → E (.ref e) { s with heap := h' }) : wpAny (model prog w) A (Builtin.SmallTypes.nextOf (.ref it)) Q E s := by
  cases b
  · exact wpAny_nextOf_list_end hh hit hl hx hE
  · exact nextOf_tuple_end hh hit hl hx hE
theorem zipK_next_item {b1 b2 : Bool} {z TI TO i1 i2 l1 l2 : Addr} {k1 k2 : Nat} {xs ys : Array Value} {x y a b : Value} {Q : Value → Shared → Prop} (D : ZipApart z TI TO i1 i2 l1 l2)
    (hz : IsZip s.heap z TI TO .none) (hTI : IsPair s.heap TI (.ref i1) (.ref i2)) (hTO : IsPair s.heap TO a b)
    (h1 : IsIt b1 s.heap i1 l1 k1) (h2 : IsIt b2 s.heap i2 l2 k2) (hl1 : IsSq b1 s.heap l1 xs) (hl2 : IsSq b2 s.heap l2 ys) (hx : xs[k1]? = some x) (hy : ys[k2]? = some y)
    (hQ : ∀ h', IsZip h' z TI TO (rawInt s.heap.objs.size) → IsPair h' TO x y → IsIt b1 h' i1 l1 (k1 + 1) → IsIt b2 h' i2 l2 (k2 + 1) → IsPair h' s.heap.objs.size x y → h'.objs.size = s.heap.objs.size + 1 →
      (∀ c o, c ≠ z → c ≠ TO → c ≠ i1 → c ≠ i2 → s.heap.get? c = some o → h'.get? c = some o) → Q (.ref s.heap.objs.size) { s with heap := h' }) :
    wpAny (model prog w) A (Builtin.«zip.__next__» ⟨[.ref z], []⟩) (fun fin s' => ∃ v, fin = .done (.ret v) ∧ Q v s') E s := by
  show wpAny _ _ (field (.ref z) 2 >>= _) _ _ _
  refine wpAny_bind (wpAny_field hz rfl (x := .bool false) rfl ?_)
  show wpAny _ _ (field (.ref z) 3 >>= _) _ _ _
  refine wpAny_bind (wpAny_field hz rfl (x := .ref TI) rfl ?_)
  refine wpAny_bind (wpAny_seqItems hTI rfl ?_)
  show wpAny _ _ (Builtin.SmallTypes.ownedTupleIsFree (.ref z) >>= _) _ _ _
  refine wpAny_bind ?_
  unfold Builtin.SmallTypes.ownedTupleIsFree
  refine wpAny_bind (wpAny_field hz rfl (x := .none) rfl (wpAny_pure ?_))
  simp only [if_true]
  refine wpAny_bind (wpAny_rule ?_)
  refine wpAny_bind (wpAny_field hz rfl (x := .ref TO) rfl ?_)
  refine wpAny_bind (wpAny_setField_rec hz (by simp) fun h₁ hz₁ hs₁ => ?_)
  replace hz₁ : IsZip h₁ z TI TO .ellipsis := hz₁
  refine wpAny_bind ?_
  simp only [List.zipIdx_cons, List.zipIdx_nil, List.forIn_cons, List.forIn_nil]

  refine wpAny_bind (wpAny_bind (wpAny_onRaise ?_))
  show wpAny _ _ (Builtin.SmallTypes.nextOf (.ref i1) >>= _) _ _ _
  refine wpAny_bind (nextK_item (h1.extBut hs₁.extBut D.i1z) (hl1.extBut hs₁.extBut D.l1z) hx fun h₂ h1₂ hs₂ => wpAny_pure ?_)
  have hTO₂ : IsPair h₂ TO a b := hs₂.extBut _ _ D.TOi1 (hs₁.extBut _ _ D.TOz hTO)
  refine wpAny_bind (wpAny_seqItems hTO₂ rfl ?_)
  refine wpAny_bind (wpAny_updateSeq_pair hTO₂ fun h₃ hTO₃ hs₃ => ?_)
  replace hTO₃ : IsPair h₃ TO x b := hTO₃
  refine wpAny_bind (wpAny_letGo (wpAny_pure ?_))

  refine wpAny_bind (wpAny_bind (wpAny_onRaise ?_))
  show wpAny _ _ (Builtin.SmallTypes.nextOf (.ref i2) >>= _) _ _ _
  refine wpAny_bind (nextK_item (((h2.extBut hs₁.extBut D.i2z).extBut hs₂.extBut D.i12.symm).extBut hs₃.extBut D.TOi2.symm)
    (((hl2.extBut hs₁.extBut D.l2z).extBut hs₂.extBut D.l2i1).extBut hs₃.extBut D.l2TO) hy fun h₄ h2₄ hs₄ => wpAny_pure ?_)
  have hTO₄ : IsPair h₄ TO x b := hs₄.extBut _ _ D.TOi2 hTO₃
  refine wpAny_bind (wpAny_seqItems hTO₄ rfl ?_)
  refine wpAny_bind (wpAny_updateSeq_pair hTO₄ fun h₅ hTO₅ hs₅ => ?_)
  replace hTO₅ : IsPair h₅ TO x y := hTO₅
  refine wpAny_bind (wpAny_letGo (wpAny_pure (wpAny_pure ?_)))

  refine wpAny_bind (wpAny_seqItems hTO₅ rfl ?_)
  refine wpAny_bind (wpAny_newTuple ?_)
  have hsz : h₅.objs.size = s.heap.objs.size := by rw [hs₅.1, hs₄.1, hs₃.1, hs₂.1, hs₁.1]
  have hz₅ : IsZip h₅ z TI TO .ellipsis := hs₅.extBut _ _ D.TOz.symm (hs₄.extBut _ _ D.i2z.symm (hs₃.extBut _ _ D.TOz.symm (hs₂.extBut _ _ D.i1z.symm hz₁)))
  have hk₅ : ∀ c o, c ≠ z → c ≠ TO → c ≠ i1 → c ≠ i2 → s.heap.get? c = some o → h₅.get? c = some o := fun c o c1 c2 c3 c4 e =>
    hs₅.extBut _ _ c2 (hs₄.extBut _ _ c4 (hs₃.extBut _ _ c2 (hs₂.extBut _ _ c3 (hs₁.extBut _ _ c1 e))))
  have h1₅ : IsIt b1 h₅ i1 l1 (k1 + 1) := ((h1₂.extBut hs₃.extBut D.TOi1.symm).extBut hs₄.extBut D.i12).extBut hs₅.extBut D.TOi1.symm
  have h2₅ : IsIt b2 h₅ i2 l2 (k2 + 1) := h2₄.extBut hs₅.extBut D.TOi2.symm
  have hzlt : z < h₅.objs.size := Heap.lt_size hz₅
  have hTOlt : TO < h₅.objs.size := Heap.lt_size hTO₅
  have hi1lt : i1 < h₅.objs.size := by obtain ⟨_, e, _⟩ := h1₅.obj; exact Heap.lt_size e
  have hi2lt : i2 < h₅.objs.size := by obtain ⟨_, e, _⟩ := h2₅.obj; exact Heap.lt_size e
  show wpAny _ _ (Builtin.SmallTypes.ownedTupleHandOut (.ref z) (.ref h₅.objs.size) >>= _) _ _ _
  refine wpAny_bind ?_
  unfold Builtin.SmallTypes.ownedTupleHandOut
  have hz₆ : IsZip (h₅.push { cls := .type "tuple", data := .seq #[x, y] }) z TI TO .ellipsis := Heap.get?_push_of_some _ hz₅
  refine wpAny_bind (wpAny_setField_rec hz₆ (by simp) fun h₇ hz₇ hs₇ => ?_)
  replace hz₇ : IsZip h₇ z TI TO (rawInt h₅.objs.size) := hz₇
  refine wpAny_setField_rec hz₇ (by simp) fun h₈ hz₈ hs₈ => ?_
  replace hz₈ : IsZip h₈ z TI TO (rawInt h₅.objs.size) := hz₈
  have up : ∀ c o, c ≠ z → h₅.get? c = some o → h₈.get? c = some o := fun c o c1 e => hs₈.extBut _ _ c1 (hs₇.extBut _ _ c1 (Heap.get?_push_of_some _ e))
  have hT₈ : IsPair h₈ h₅.objs.size x y := hs₈.extBut _ _ (Nat.ne_of_gt hzlt) (hs₇.extBut _ _ (Nat.ne_of_gt hzlt) (Heap.get?_push_size _ rfl))
  have hz8 : h₈.objs.size = h₅.objs.size + 1 := by rw [hs₈.1, hs₇.1, Heap.size_push]
  rw [hsz] at hz₈ hT₈ hz8
  refine wpAny_pure ⟨_, rfl, ?_⟩
  show Q (.ref h₅.objs.size) _
  rw [hsz]
  exact hQ h₈ hz₈ (up _ _ D.TOz hTO₅) (h1₅.at fun o e => up _ o D.i1z e) (h2₅.at fun o e => up _ o D.i2z e) hT₈ hz8 fun c o c1 c2 c3 c4 e => up c o c1 (hk₅ c o c1 c2 c3 c4 e)

theorem zipK_next_end {b1 b2 : Bool} {z TI TO i1 i2 l1 l2 : Addr} {k1 k2 : Nat} {xs ys : Array Value} {a b : Value} {Q : Fin → Shared → Prop} (hh : A.handled = none) (D : ZipApart z TI TO i1 i2 l1 l2)
    (hz : IsZip s.heap z TI TO .none) (hTI : IsPair s.heap TI (.ref i1) (.ref i2)) (hTO : IsPair s.heap TO a b)
    (h1 : IsIt b1 s.heap i1 l1 k1) (h2 : IsIt b2 s.heap i2 l2 k2) (hl1 : IsSq b1 s.heap l1 xs) (hl2 : IsSq b2 s.heap l2 ys) (hend : xs[k1]? = none ∨ ys[k2]? = none)
    (hE : ∀ h' e, (∀ c o, c ≠ z → c ≠ TO → c ≠ i1 → c ≠ i2 → s.heap.get? c = some o → h'.get? c = some o) → (∃ o, h'.get? e = some o ∧ o.cls = .type "StopIteration") → E (.ref e) { s with heap := h' }) :
    wpAny (model prog w) A (Builtin.«zip.__next__» ⟨[.ref z], []⟩) Q E s := by
  show wpAny _ _ (field (.ref z) 2 >>= _) _ _ _
  refine wpAny_bind (wpAny_field hz rfl (x := .bool false) rfl ?_)
  show wpAny _ _ (field (.ref z) 3 >>= _) _ _ _
  refine wpAny_bind (wpAny_field hz rfl (x := .ref TI) rfl ?_)
  refine wpAny_bind (wpAny_seqItems hTI rfl ?_)
  show wpAny _ _ (Builtin.SmallTypes.ownedTupleIsFree (.ref z) >>= _) _ _ _
  refine wpAny_bind ?_
  unfold Builtin.SmallTypes.ownedTupleIsFree
  refine wpAny_bind (wpAny_field hz rfl (x := .none) rfl (wpAny_pure ?_))
  simp only [if_true]
  refine wpAny_bind (wpAny_rule ?_)
  refine wpAny_bind (wpAny_field hz rfl (x := .ref TO) rfl ?_)
  refine wpAny_bind (wpAny_setField_rec hz (by simp) fun h₁ hz₁ hs₁ => ?_)
  replace hz₁ : IsZip h₁ z TI TO .ellipsis := hz₁
  refine wpAny_bind ?_
  simp only [List.zipIdx_cons, List.zipIdx_nil, List.forIn_cons, List.forIn_nil]
  refine wpAny_bind (wpAny_bind (wpAny_onRaise ?_))
  show wpAny _ _ (Builtin.SmallTypes.nextOf (.ref i1) >>= _) _ _ _
  cases hx : xs[k1]? with
  | none =>
    refine wpAny_bind (nextK_end hh (h1.extBut hs₁.extBut D.i1z) (hl1.extBut hs₁.extBut D.l1z) hx fun h₂ e hs₂ he => ?_)
    obtain ⟨oe, hoe, hce⟩ := he
    have hz₂ : IsZip h₂ z TI TO .ellipsis := hs₂ _ _ D.i1z.symm hz₁
    have hez : e ≠ z := fun x => by subst x; rw [hz₂] at hoe; cases hoe; simp at hce
    refine wpAny_setField_rec hz₂ (by simp) fun h₃ _ hs₃ => hE h₃ e (fun c o c1 _ c3 _ x => hs₃.extBut _ _ c1 (hs₂ _ _ c3 (hs₁.extBut _ _ c1 x))) ⟨oe, hs₃.extBut _ _ hez hoe, hce⟩
  | some x =>
    have hy : ys[k2]? = none := by rcases hend with h | h; rw [hx] at h; cases h; exact h
    refine wpAny_bind (nextK_item (h1.extBut hs₁.extBut D.i1z) (hl1.extBut hs₁.extBut D.l1z) hx fun h₂ h1₂ hs₂ => wpAny_pure ?_)
    have hTO₂ : IsPair h₂ TO a b := hs₂.extBut _ _ D.TOi1 (hs₁.extBut _ _ D.TOz hTO)
    refine wpAny_bind (wpAny_seqItems hTO₂ rfl ?_)
    refine wpAny_bind (wpAny_updateSeq_pair hTO₂ fun h₃ hTO₃ hs₃ => ?_)
    refine wpAny_bind (wpAny_letGo (wpAny_pure ?_))
    refine wpAny_bind (wpAny_bind (wpAny_onRaise ?_))
    show wpAny _ _ (Builtin.SmallTypes.nextOf (.ref i2) >>= _) _ _ _
    refine wpAny_bind (nextK_end hh (((h2.extBut hs₁.extBut D.i2z).extBut hs₂.extBut D.i12.symm).extBut hs₃.extBut D.TOi2.symm)
      (((hl2.extBut hs₁.extBut D.l2z).extBut hs₂.extBut D.l2i1).extBut hs₃.extBut D.l2TO) hy fun h₄ e hs₄ he => ?_)
    obtain ⟨oe, hoe, hce⟩ := he
    have hz₄ : IsZip h₄ z TI TO .ellipsis := hs₄ _ _ D.i2z.symm (hs₃.extBut _ _ D.TOz.symm (hs₂.extBut _ _ D.i1z.symm hz₁))
    have hez : e ≠ z := fun x => by subst x; rw [hz₄] at hoe; cases hoe; simp at hce
    refine wpAny_setField_rec hz₄ (by simp) fun h₅ _ hs₅ => hE h₅ e (fun c o c1 c2 c3 c4 x => hs₅.extBut _ _ c1 (hs₄ _ _ c4 (hs₃.extBut _ _ c2 (hs₂.extBut _ _ c3 (hs₁.extBut _ _ c1 x))))) ⟨oe, hs₅.extBut _ _ hez hoe, hce⟩

theorem pyNext_zipK_item {b1 b2 : Bool} {z TI TO i1 i2 l1 l2 : Addr} {k1 k2 : Nat} {xs ys : Array Value} {x y a b : Value} {Q : Option Value → Shared → Prop} (D : ZipApart z TI TO i1 i2 l1 l2)
    (hz : IsZip s.heap z TI TO .none) (hTI : IsPair s.heap TI (.ref i1) (.ref i2)) (hTO : IsPair s.heap TO a b)
    (h1 : IsIt b1 s.heap i1 l1 k1) (h2 : IsIt b2 s.heap i2 l2 k2) (hl1 : IsSq b1 s.heap l1 xs) (hl2 : IsSq b2 s.heap l2 ys) (hx : xs[k1]? = some x) (hy : ys[k2]? = some y)
    (hQ : ∀ h', IsZip h' z TI TO (rawInt s.heap.objs.size) → IsPair h' TO x y → IsIt b1 h' i1 l1 (k1 + 1) → IsIt b2 h' i2 l2 (k2 + 1) → IsPair h' s.heap.objs.size x y → h'.objs.size = s.heap.objs.size + 1 →
      (∀ c o, c ≠ z → c ≠ TO → c ≠ i1 → c ≠ i2 → s.heap.get? c = some o → h'.get? c = some o) → Q (some (.ref s.heap.objs.size)) { s with heap := h' }) :
    wpAny (model prog w) A (pyNext (.ref z)) Q E s := by
  have hT : s.TypeIs (.ref z) "zip" := ⟨_, hz, rfl⟩
  unfold pyNext
  exact wpAny_bind (wpAny_attempt (wpAny_callSpecial?_slot (name := Str.ofString "__next__") hT F.slot_zip_next
    (wpAny_call_entry F.slot_zip_next hT F.entry_zip_next
      (zipK_next_item D hz hTI hTO h1 h2 hl1 hl2 hx hy fun h' a1 a2 a3 a4 a5 a6 a7 => wpAny_pure (hQ h' a1 a2 a3 a4 a5 a6 a7)) (F.args_zip_next_1 _))))

theorem pyNext_zipK_end {b1 b2 : Bool} {z TI TO i1 i2 l1 l2 : Addr} {k1 k2 : Nat} {xs ys : Array Value} {a b : Value} {Q : Option Value → Shared → Prop} (hh : A.handled = none) (D : ZipApart z TI TO i1 i2 l1 l2)
    (hz : IsZip s.heap z TI TO .none) (hTI : IsPair s.heap TI (.ref i1) (.ref i2)) (hTO : IsPair s.heap TO a b)
    (h1 : IsIt b1 s.heap i1 l1 k1) (h2 : IsIt b2 s.heap i2 l2 k2) (hl1 : IsSq b1 s.heap l1 xs) (hl2 : IsSq b2 s.heap l2 ys) (hend : xs[k1]? = none ∨ ys[k2]? = none)
    (hQ : ∀ h', (∀ c o, c ≠ z → c ≠ TO → c ≠ i1 → c ≠ i2 → s.heap.get? c = some o → h'.get? c = some o) → Q none { s with heap := h' }) : wpAny (model prog w) A (pyNext (.ref z)) Q E s := by
  have hT : s.TypeIs (.ref z) "zip" := ⟨_, hz, rfl⟩
  unfold pyNext
  refine wpAny_bind (wpAny_attempt (wpAny_callSpecial?_slot (name := Str.ofString "__next__") hT F.slot_zip_next
    (wpAny_call_entry F.slot_zip_next hT F.entry_zip_next (zipK_next_end hh D hz hTI hTO h1 h2 hl1 hl2 hend fun h' e hk he => ?_) (F.args_zip_next_1 _))))
  obtain ⟨o, ho, hc⟩ := he
  refine wpAny_bind (wpAny_isInstance (T := "StopIteration") (b := true) ⟨o, ho, hc⟩ isSubtype_stop ?_)
  exact wpAny_pure (hQ _ hk)
end
abbrev zipLTH1 (h : Heap) (l1 : Addr) : Heap := h.push { cls := .type "list_iterator", data := .fields #[.ref l1, .int 0 0] }
abbrev zipLTH2 (h : Heap) (l1 l2 : Addr) : Heap := (zipLTH1 h l1).push { cls := .type "tuple_iterator", data := .fields #[.ref l2, .int 0 0] }
abbrev zipLTH3 (h : Heap) (l1 l2 : Addr) : Heap := (zipLTH2 h l1 l2).push { cls := .type "tuple", data := .seq #[.ref h.objs.size, .ref (zipLTH1 h l1).objs.size] }
abbrev zipLTH4 (h : Heap) (l1 l2 : Addr) : Heap := (zipLTH3 h l1 l2).push { cls := .type "tuple", data := .seq #[.none, .none] }
abbrev zipLTH5 (h : Heap) (l1 l2 : Addr) : Heap := (zipLTH4 h l1 l2).push { cls := .type "zip", data := .fields #[.none, .bool false, .bool false, .ref (zipLTH2 h l1 l2).objs.size, .ref (zipLTH3 h l1 l2).objs.size] }

theorem meets_zipLT_new (l1 l2 : Addr) (xs ys : Array Value) :
    Meets (Builtin.«zip.__new__» ⟨[.type "zip", .ref l1, .ref l2], []⟩) (fun _ R s => s.heap.IsList l1 xs ∧ s.heap.IsTuple l2 ys ∧
      R (.ok (.ret (.ref (zipLTH4 s.heap l1 l2).objs.size))) { s with heap := zipLTH5 s.heap l1 l2 }) :=
  .of_wp fun prog w A R s h => by
    obtain ⟨hp, g, d, tk, os⟩ := s; obtain ⟨hl1, hl2, h⟩ := h
    have hsub := sub_zip
    have hL1 : Heap.IsList (Shared.heap ⟨hp, g, d, tk, os⟩) l1 xs := hl1
    have hL2 : Heap.IsTuple (Shared.heap ⟨hp.push { cls := .type "list_iterator", data := .fields #[.ref l1, .int 0 0] }, g, d, tk, os⟩) l2 ys := Heap.IsTuple.push hl2 _
    wp_walk using wpAny_pyIter_list hL1, wpAny_pyIter_tuple hL2
    exact ⟨_, rfl, h⟩

section
variable {prog : Program} {w : World} {A : Around} {E : Value → Shared → Prop} {s : Shared}

theorem call_zipLT {l1 l2 : Addr} {xs ys : Array Value} {Q : Value → Shared → Prop} (hl1 : s.heap.IsList l1 xs) (hl2 : s.heap.IsTuple l2 ys)
    (h : ∀ h', IsZip h' (s.heap.objs.size + 4) (s.heap.objs.size + 2) (s.heap.objs.size + 3) .none → IsPair h' (s.heap.objs.size + 2) (.ref s.heap.objs.size) (.ref (s.heap.objs.size + 1)) →
      IsPair h' (s.heap.objs.size + 3) .none .none → h'.IsListIter s.heap.objs.size l1 0 → h'.IsTupleIter (s.heap.objs.size + 1) l2 0 → h'.objs.size = s.heap.objs.size + 5 →
      (∀ c o, s.heap.get? c = some o → h'.get? c = some o) → Q (.ref (s.heap.objs.size + 4)) { s with heap := h' }) :
    wpAny (model prog w) A (call (.type "zip") [.ref l1, .ref l2]) Q E s := by
  refine callType_new F.called_zip (by decide) (F.typeCall_zip_2 _ _) (F.newCall_zip_2 _ _) (fun obj => F.args_object_init_3 obj _ _) F.entry_zip_new
    (meets_zipLT_new l1 l2 xs ys) ⟨hl1, hl2, ?_⟩
  have z1 : (zipLTH1 s.heap l1).objs.size = s.heap.objs.size + 1 := Heap.size_push ..
  have z2 : (zipLTH2 s.heap l1 l2).objs.size = s.heap.objs.size + 2 := by rw [Heap.size_push, z1]
  have z3 : (zipLTH3 s.heap l1 l2).objs.size = s.heap.objs.size + 3 := by rw [Heap.size_push, z2]
  have z4 : (zipLTH4 s.heap l1 l2).objs.size = s.heap.objs.size + 4 := by rw [Heap.size_push, z3]
  have z5 : (zipLTH5 s.heap l1 l2).objs.size = s.heap.objs.size + 5 := by rw [Heap.size_push, z4]
  have g5 : (zipLTH5 s.heap l1 l2).get? (zipLTH4 s.heap l1 l2).objs.size = some _ := Heap.get?_push_size _ rfl
  have g4 : (zipLTH5 s.heap l1 l2).get? (zipLTH3 s.heap l1 l2).objs.size = some _ := Heap.get?_push_of_some _ (Heap.get?_push_size _ rfl)
  have g3 : (zipLTH5 s.heap l1 l2).get? (zipLTH2 s.heap l1 l2).objs.size = some _ := Heap.get?_push_of_some _ (Heap.get?_push_of_some _ (Heap.get?_push_size _ rfl))
  have g2 : (zipLTH5 s.heap l1 l2).get? (zipLTH1 s.heap l1).objs.size = some _ := Heap.get?_push_of_some _ (Heap.get?_push_of_some _ (Heap.get?_push_of_some _ (Heap.get?_push_size _ rfl)))
  have g1 : (zipLTH5 s.heap l1 l2).get? s.heap.objs.size = some _ := Heap.get?_push_of_some _ (Heap.get?_push_of_some _ (Heap.get?_push_of_some _ (Heap.get?_push_of_some _ (Heap.get?_push_size _ rfl))))
  show _ ∧ _
  rw [z2, z3, z4] at g5
  rw [z1, z2] at g3
  rw [z3] at g4
  rw [z1] at g2
  rw [z4]
  exact ⟨⟨_, g5, rfl⟩, h _ g5 g3 g4 ⟨_, g1, rfl, rfl⟩ ⟨_, g2, rfl, rfl⟩ z5 fun c o x =>
    Heap.get?_push_of_some _ (Heap.get?_push_of_some _ (Heap.get?_push_of_some _ (Heap.get?_push_of_some _ (Heap.get?_push_of_some _ x))))⟩
end

section
variable {prog : Program} {w : World} {A : Around} {E : Value → Shared → Prop} {s : Shared}
theorem call_zipK {b1 b2 : Bool} (hb : b1 = true → b2 = true) {l1 l2 : Addr} {xs ys : Array Value} {Q : Value → Shared → Prop} (hl1 : IsSq b1 s.heap l1 xs) (hl2 : IsSq b2 s.heap l2 ys)
    (h : ∀ h', IsZip h' (s.heap.objs.size + 4) (s.heap.objs.size + 2) (s.heap.objs.size + 3) .none → IsPair h' (s.heap.objs.size + 2) (.ref s.heap.objs.size) (.ref (s.heap.objs.size + 1)) →
      IsPair h' (s.heap.objs.size + 3) .none .none → IsIt b1 h' s.heap.objs.size l1 0 → IsIt b2 h' (s.heap.objs.size + 1) l2 0 → h'.objs.size = s.heap.objs.size + 5 →
      (∀ c o, s.heap.get? c = some o → h'.get? c = some o) → Q (.ref (s.heap.objs.size + 4)) { s with heap := h' }) :
    wpAny (model prog w) A (call (.type "zip") [.ref l1, .ref l2]) Q E s := by
  cases b1 <;> cases b2
  · exact call_zip_2 hl1 hl2 h
  · exact call_zipLT hl1 hl2 h
  · cases hb rfl
  · exact call_zipT hl1 hl2 h
end
def SqK (b : Bool) (K : PySem.W.Frag) (H : Hp) (a : Addr) (xs : List V) : Prop := match b with
  | true => SqT K H a xs
  | false => SqL K H a xs
theorem seqK {b : Bool} {X : Cx} {pins : List (Addr × Obj)} {σ : L2.St} {H : Hp} {s : Shared} {a : Addr} {xs : List V} (I : Inv X pins σ H s) (h : SqK b X.K H a xs) : ∃ its : List Value, Vals xs its ∧ IsSq b s.heap a its.toArray := by
  cases b
  · obtain ⟨its, rv, p, _⟩ := I.list h
    exact ⟨its, rv, p.isList⟩
  · obtain ⟨its, rv, p, _⟩ := I.tuple h
    exact ⟨its, rv, p⟩
theorem seqK_inj {b : Bool} {X : Cx} {pins : List (Addr × Obj)} {σ : L2.St} {H : Hp} {s : Shared} {a : Addr} {xs ys : List V} (I : Inv X pins σ H s) (h : SqK b X.K H a xs) (h' : SqK b X.K H a ys) : xs = ys := by
  cases b
  · exact I.list_inj h h'
  · exact I.tuple_inj h h'
/-- what stands at a and b at each turn (a list or a tuple), the items in new pairs -/
def ItzK (b1 b2 : Bool) (K : PySem.W.Frag) (a b : Addr) : It :=
  ⟨fun i H => ∃ (xs ys : List V) (x y : V), SqK b1 K H a xs ∧ SqK b2 K H b ys ∧ xs[i]? = some x ∧ ys[i]? = some y,
    fun i H v H' => ∃ T x y, v = .ref T ∧ H T = none ∧ H' = upd H T (.tup [x, y]) ∧ (∀ xs, SqK b1 K H a xs → xs[i]? = some x) ∧ ∀ ys, SqK b2 K H b ys → ys[i]? = some y,
    fun i H => ∃ xs ys : List V, SqK b1 K H a xs ∧ SqK b2 K H b ys ∧ (xs.length ≤ i ∨ ys.length ≤ i)⟩
theorem turn_zipK {P : Program} {w : World} {K : PySem.W.Frag} {elts : List Expr} {kk : Nat} {tpos : Pos} {b1 b2 : Bool} {a b z TI TO i1 i2 : Addr} (D : ZipApart z TI TO i1 i2 a b) :
    Turn P w K (.Tuple elts kk tpos) (ItzK b1 b2 K a b) [z, TI, TO, i1, i2] z (fun i h => IsZip h z TI TO .none ∧ IsPair h TI (.ref i1) (.ref i2) ∧ (∃ x y, IsPair h TO x y) ∧ IsIt b1 h i1 a i ∧ IsIt b2 h i2 b i) where
  mem := by simp
  obj := fun i h st c hc => by
    obtain ⟨hz, hTI, ⟨x, y, hTO⟩, h1, h2⟩ := st
    obtain ⟨o1, e1, d1⟩ := h1.obj
    obtain ⟨o2, e2, d2⟩ := h2.obj
    have e' : c = z ∨ c = TI ∨ c = TO ∨ c = i1 ∨ c = i2 := by simpa using hc
    rcases e' with q | q | q | q | q
    · rw [q]; exact ⟨_, hz, fun v q => nomatch q⟩
    · rw [q]; exact ⟨_, hTI, fun v q => nomatch q⟩
    · rw [q]; exact ⟨_, hTO, fun v q => nomatch q⟩
    · rw [q]; exact ⟨o1, e1, d1⟩
    · rw [q]; exact ⟨o2, e2, d2⟩
  keep := fun i h h' st k => by
    obtain ⟨hz, hTI, ⟨x, y, hTO⟩, h1, h2⟩ := st
    exact ⟨k z (by simp) _ hz, k TI (by simp) _ hTI, ⟨x, y, k TO (by simp) _ hTO⟩, h1.at fun o q => k i1 (by simp) o q, h2.at fun o q => k i2 (by simp) o q⟩
  item := by
    intro X hP hw hK hc i pins s σ H E I hf st hg
    subst hP hw hK
    obtain ⟨hz, hTI, ⟨x0, y0, hTO⟩, h1, h2⟩ := st
    obtain ⟨xs, ys, x, y, hqx, hqy, hx, hy⟩ := hg
    obtain ⟨its, rv, p⟩ := seqK I hqx
    obtain ⟨its2, rv2, p2⟩ := seqK I hqy
    obtain ⟨u, hu, ru⟩ := rv.get hx
    obtain ⟨u2, hu2, ru2⟩ := rv2.get hy
    have hzl : z < s.heap.objs.size := Heap.lt_size hz
    refine pyNext_zipK_item D hz hTI hTO h1 h2 p p2 (x := u) (y := u2) (by simpa using hu) (by simpa using hu2) fun h' z' TO' h1' h2' hT hsz hk => ?_
    refine ⟨_, rfl, wpAny_letOwnedTupleGo_zip (s := { s with heap := h' }) z' fun h'' z'' sb => ?_⟩
    have hT2 : h''.get? s.heap.objs.size = some { cls := .type "tuple", data := .seq #[u, u2] } := (sb.2 _ (Nat.ne_of_gt hzl)).trans hT
    have new : ObjOk X.prog X.w (upd H s.heap.objs.size (.tup [x, y])) h'' s.heap.objs.size (.tup [x, y]) :=
      ⟨by show 2 ≤ sizeLine; decide, [u, u2], .cons ru (.cons ru2 .nil), ⟨_, hT2, rfl, _, rfl⟩⟩
    have I1 : Inv X pins σ (upd H s.heap.objs.size (.tup [x, y])) { s with heap := h'' } :=
      I.turnedNew (t' := s.toks) (ch := [z, TI, TO, i1, i2]) (fun c o hb q => (sb.2 c (fun q' => hb (by simp [q']))).trans (hk c o (fun q' => hb (by simp [q'])) (fun q' => hb (by simp [q'])) (fun q' => hb (by simp [q'])) (fun q' => hb (by simp [q'])) q)) hf (Nat.le_refl _) new
    refine ⟨.ref s.heap.objs.size, _, I1, rfl, ⟨_, x, y, rfl, I.hok.fresh (Nat.le_refl _), rfl, fun l hl => by rw [seqK_inj I hl hqx]; exact hx, fun l hl => by rw [seqK_inj I hl hqy]; exact hy⟩, ⟨z'', ?_, ⟨u, u2, ?_⟩, ?_, ?_⟩, fun c hcm => ?_⟩
    · exact (sb.2 _ D.TIz).trans (hk _ _ D.TIz D.TITO D.TIi1 D.TIi2 hTI)
    · exact (sb.2 _ D.TOz).trans TO'
    · exact h1'.at fun o q => (sb.2 _ D.i1z).trans q
    · exact h2'.at fun o q => (sb.2 _ D.i2z).trans q
    · have hlt : c < s.heap.objs.size := by
        have e' : c = z ∨ c = TI ∨ c = TO ∨ c = i1 ∨ c = i2 := by simpa using hcm
        rcases e' with q | q | q | q | q
        · rw [q]; exact hzl
        · rw [q]; exact Heap.lt_size hTI
        · rw [q]; exact Heap.lt_size hTO
        · rw [q]; obtain ⟨_, e1, _⟩ := h1.obj; exact Heap.lt_size e1
        · rw [q]; obtain ⟨_, e2, _⟩ := h2.obj; exact Heap.lt_size e2
      rw [upd_ne (Nat.ne_of_lt hlt)]
      exact (hf c hcm).1
  done := by
    intro X hP hw hK hc i pins s σ H E I hf st hg
    subst hP hw hK
    obtain ⟨hz, hTI, ⟨x0, y0, hTO⟩, h1, h2⟩ := st
    obtain ⟨xs, ys, hqx, hqy, hend⟩ := hg
    obtain ⟨its, rv, p⟩ := seqK I hqx
    obtain ⟨its2, rv2, p2⟩ := seqK I hqy
    have l1 := rv.length
    have l2 := rv2.length
    have he : its.toArray[i]? = none ∨ its2.toArray[i]? = none := by
      rcases hend with q | q
      · exact .inl (by simp; omega)
      · exact .inr (by simp; omega)
    exact pyNext_zipK_end (I.ok.hd hc) D hz hTI hTO h1 h2 p p2 he fun h' hk => ⟨rfl, I.turnedL (t' := s.toks) (ch := [z, TI, TO, i1, i2]) (fun c o hb q =>
      hk c o (fun q' => hb (by simp [q'])) (fun q' => hb (by simp [q'])) (fun q' => hb (by simp [q'])) (fun q' => hb (by simp [q'])) q) hf⟩
  self := fun A i s Q E st h => wpAny_pyIter_zip st.1 h


def iZipK (b1 b2 : Bool) (K : PySem.W.Frag) (ta : TA) : TI := fun σ H R => ta σ H fun vs H1 => ∃ a b xs ys, vs = [.ref a, .ref b] ∧ SqK b1 K H1 a xs ∧ SqK b2 K H1 b ys ∧ R (ItzK b1 b2 K a b) H1
theorem iPosK {X : Cx} {b1 : Bool} {pins : List (Addr × Obj)} {σ : L2.St} {H1 : Hp} {s1 : Shared} {a : Addr} {xs : List V} (I1 : Inv X pins σ H1 s1) (hqx : SqK b1 X.K H1 a xs) : a < s1.heap.objs.size := by
  obtain ⟨its, rv, p⟩ := seqK I1 hqx
  cases b1
  · obtain ⟨o, ho, _⟩ := p
    exact Heap.lt_size ho
  · obtain ⟨o, ho, _⟩ := p
    exact Heap.lt_size ho
theorem pi_zipK {X : Cx} (b1 b2 : Bool) (hb : b1 = true → b2 = true) {e e2 : Expr} {ta : TA} {p pos tpos : Pos} {elts : List Expr} {kk : Nat} (hg : Gl X "zip") (hm : X.mg "zip" = none) (ha : PA X [e, e2] ta)
    (hs : starEach [e, e2] X.env = (false, eval e X.env) :: starEach [e2] X.env := by rfl) (hpl : (backTo pos (starEach [e2] X.env)).any (·.1) = false := by rfl) :
    PI X (.Tuple elts kk tpos) (.Call (.Name "zip" p) [e, e2] [] pos) (iZipK b1 b2 X.K ta) := by
  refine ⟨fun pins s σ H R I h => ?_⟩
  refine Call_ (ld_blt I hg hm PyProof.Rows.boot_zip (PyProof.Rows.callWith_type1 (thn (ha.run pos pins s σ H _ I h) fun us s1 ⟨vs, H1, I1, r1, q1⟩ => ?_) hs hpl))
  obtain ⟨a, b, xs, ys, ex, hqx, hqy, q⟩ := q1
  subst ex
  cases r1 with
  | cons r rr =>
    cases rr with
    | cons r' rr =>
      cases rr
      cases r
      cases r'
      have la : a < s1.heap.objs.size := iPosK (b1 := b1) I1 hqx
      have lb : b < s1.heap.objs.size := iPosK (b1 := b2) I1 hqy
      obtain ⟨its, rv, p1⟩ := seqK I1 hqx
      obtain ⟨its2, rv2, p2⟩ := seqK I1 hqy
      refine call_zipK hb p1 p2 fun h' hz hTI hTO h1 h2 hsz hk => wpAny_pyIter_zip hz ?_
      have I2 : Inv X pins σ H1 { s1 with heap := h' } := I1.kept (t' := s1.toks) hk
      refine ⟨s1.heap.objs.size + 4, [s1.heap.objs.size + 4, s1.heap.objs.size + 2, s1.heap.objs.size + 3, s1.heap.objs.size, s1.heap.objs.size + 1], _, _, H1, rfl, I2, turn_zipK (PySem.W.ktu_apart s1.heap.objs.size a b la lb), ⟨hz, hTI, ⟨_, _, hTO⟩, h1, h2⟩, fun c hcm => ?_, q⟩
      have e' : c = s1.heap.objs.size + 4 ∨ c = s1.heap.objs.size + 2 ∨ c = s1.heap.objs.size + 3 ∨ c = s1.heap.objs.size ∨ c = s1.heap.objs.size + 1 := by simpa using hcm
      have hle : s1.heap.objs.size ≤ c := by
        rcases e' with z | z | z | z | z
        · rw [z]; exact Nat.le_add_right _ _
        · rw [z]; exact Nat.le_add_right _ _
        · rw [z]; exact Nat.le_add_right _ _
        · rw [z]; exact Nat.le_refl _
        · rw [z]; exact Nat.le_add_right _ _
      exact I1.fpOk hle (I1.hok.fresh hle)
/-- zip(xs, t) of a list and a tuple -/
def dZipT (d e : D) : Option (List D) := (asL d).bind fun ds => (asT e).bind fun es => some (zipL ds es)
section
variable {K : PySem.W.Frag} {X : Cx} {a b : Expr} {ta tb : TE} {pos p tpos : Pos} {elts : List Expr} {kk : Nat}
theorem pid_zipT {g h : DE → Option D} (hg : Gl X "zip") (hm : X.mg "zip" = none) (ha : PD K X a ta g) (hb : PD K X b tb h) (na : starEach [a, b] X.env = (false, eval a X.env) :: starEach [b] X.env := by rfl) (nb : starEach [b] X.env = (false, eval b X.env) :: starEach [] X.env := by rfl)
    (hpl : (backTo pos (starEach [b] X.env)).any (·.1) = false := by rfl) :
    PId K (Dw K) X (.Tuple elts kk tpos) (.Call (.Name "zip" p) [a, b] [] pos) (iZipK false true K (tCons ta (tCons tb tNil))) (e2 dZipT g h) :=
  ⟨fun k => by
      have := pi_zipK (elts := elts) (kk := kk) (tpos := tpos) (p := p) (pos := pos) false true (fun _ => rfl) hg hm (pa_cons (ha.pe k) (pa_cons (hb.pe k) pa_nil nb) na) na hpl
      rw [k] at this
      exact this, fun F0 H0 F ρ σ H zs r hgd Q q => by
    obtain ⟨d, h1, h2⟩ := bindSome hgd
    obtain ⟨d', h3, h4⟩ := bindSome h2
    obtain ⟨ds, h5, h6⟩ := bindSome h4
    obtain ⟨es, h7, h8⟩ := bindSome h6
    cases h8
    refine ha.ok F0 H0 F ρ σ H d r h1 _ fun v F1 H1 ex dp => ?_
    refine hb.ok F0 H0 F1 ρ σ H1 d' (r.ext ex) h3 _ fun v F' H' ex2 dp2 => ?_
    cases d <;> simp only [asL] at h5 <;> cases h5
    cases d' <;> simp only [asT] at h7 <;> cases h7
    cases dp with
    | @lst a vs _ sq al =>
      cases dp2 with
      | @tup b ws _ sq2 al2 =>
        have al' := DpAll.mono ex2.f al
        have kl : ∀ {G : Hp}, Same F1 G → SqK false K G a vs := fun s => s.seq sq
        have kt : ∀ {G : Hp}, Same F' G → SqK true K G b ws := fun s => SqT.mono s sq2.t
        refine ⟨a, b, vs, ws, rfl, kl (ex2.f.trans ex2.i), kt ex2.i, q _ F' H' (ex.trans ex2) fun i F H s1 s2 => ?_⟩
        have sq' : SqK false K H a vs := kl ((ex2.f.trans s1).trans s2)
        have sq2' : SqK true K H b ws := kt (s1.trans s2)
        refine ⟨fun z hz => ?_, fun hz => ⟨vs, ws, sq', sq2', ?_⟩⟩
        · unfold zipL at hz
          rw [List.getElem?_zipWith] at hz
          cases hd : ds[i]? with
          | none => rw [hd] at hz; cases hz
          | some d1 =>
            cases he : es[i]? with
            | none => rw [hd, he] at hz; cases hz
            | some d2 =>
              rw [hd, he] at hz
              cases hz
              obtain ⟨v1, hv1, dp1⟩ := DpAll.get' al' hd
              obtain ⟨v2, hv2, dp2⟩ := DpAll.get' al2 he
              refine ⟨⟨vs, ws, v1, v2, sq', sq2', hv1, hv2⟩, fun x H'' y => ?_⟩
              obtain ⟨T, w1, w2, rfl, hT, rfl, hw1, hw2⟩ := y
              have e1 := hw1 vs sq'
              have e2 := hw2 ws sq2'
              rw [hv1] at e1
              rw [hv2] at e2
              cases e1
              cases e2
              have sT := s1.trans (same_upd (s2.free hT) (o := .tup [v1, v2]))
              exact ⟨_, Ext.new s2 hT, T, _, _, rfl, rfl, SqT.of upd_same, .cons (Dp.mono sT dp1) (.cons (Dp.mono sT dp2) .nil)⟩
        · have := List.getElem?_eq_none_iff.mp hz
          unfold zipL at this
          rw [List.length_zipWith] at this
          rw [DpAll.length al, DpAll.length al2]
          omega⟩
end
end DL

/-! enumerate of a tuple (turned from the library's proofs for a list) -/
namespace DL
open PySem PySem.Spec PyProof.Rows L2 RZ
open AutoSeq1 (wpAny_loadPart')
theorem meets_enumerate_newT (l : Addr) (items : Array Value) (n : Nat) (dct : Option Addr) (sl : Array (Option Value)) :
    Meets (Builtin.«enumerate.__new__» ⟨[.type "enumerate", .ref l], []⟩) (fun _ R s => s.heap.get? l = some { cls := .type "tuple", dict := dct, data := .seq items n, slots := sl } ∧
      R (.ok (.ret (.ref (s.heap.push { cls := .type "tuple_iterator", data := .fields #[.ref l, .int 0 0] }).objs.size)))
        { s with heap := (s.heap.push { cls := .type "tuple_iterator", data := .fields #[.ref l, .int 0 0] }).push { cls := .type "enumerate", data := .fields #[.none, .bool false, .ref s.heap.objs.size, rawInt 0, .none, .none] } }) :=
  .of_wp fun prog w A R s h => by
    obtain ⟨hp, g, d, tk, os⟩ := s; obtain ⟨hl, h⟩ := h
    have hsub := sub_enumerate
    have hL : Heap.IsTuple (Shared.heap ⟨hp, g, d, tk, os⟩) l items := ⟨_, hl, rfl, n, rfl⟩
    wp_walk using wpAny_loadPart' hl
    refine wpAny_stack_any fun st => wpAny_pure ?_
    split
    · rename_i c _ _ _ _ _
      cases (c == Value.type "enumerate")
      · wp_walk using wpAny_loadPart' hl, wpAny_pyIter_tuple hL
        exact ⟨_, rfl, h⟩
      · wp_walk using wpAny_loadPart' hl, wpAny_pyIter_tuple hL
        exact ⟨_, rfl, h⟩
    · wp_walk using wpAny_loadPart' hl, wpAny_pyIter_tuple hL
      exact ⟨_, rfl, h⟩

section
variable {prog : Program} {w : World} {A : Around} {E : Value → Shared → Prop} {s : Shared}
theorem enumT_next_item {e it l : Addr} {i : Nat} {items : Array Value} {x old : Value} {Q : Value → Shared → Prop}
    (he : IsEnum s.heap e it i old) (hit : s.heap.IsTupleIter it l i) (hl : s.heap.IsTuple l items) (hx : items[i]? = some x) (hne : e ≠ it)
    (hQ : ∀ h', IsEnumOut h' e it ((i : Int) + 1) x s.heap.objs.size → h'.IsTupleIter it l (i + 1) →
      h'.get? s.heap.objs.size = some { cls := .type "tuple", data := .seq #[.int i s.toks, x] } → h'.objs.size = s.heap.objs.size + 1 →
      (∀ b o, b ≠ e → b ≠ it → s.heap.get? b = some o → h'.get? b = some o) → Q (.ref s.heap.objs.size) { s with heap := h', toks := s.toks + 1 }) :
    wpAny (model prog w) A (Builtin.«enumerate.__next__» ⟨[.ref e], []⟩) (fun fin s' => ∃ v, fin = .done (.ret v) ∧ Q v s') E s := by
  obtain ⟨hp, g, d, tk, os⟩ := s
  show wpAny _ _ (field (.ref e) 2 >>= _) _ _ _
  refine wpAny_bind (wpAny_field he rfl (x := .ref it) rfl ?_)
  refine wpAny_bind (nextOf_tuple_item hit hl hx fun h₁ hit₁ hs₁ => ?_)
  replace hs₁ : Heap.SameBut it hp h₁ := hs₁
  have he₁ : IsEnum h₁ e it i old := (hs₁.2 e hne).trans he
  show wpAny _ _ (field (.ref e) 3 >>= _) _ _ ⟨h₁, g, d, tk, os⟩
  refine wpAny_bind (wpAny_field he₁ rfl (x := rawInt i) rfl ?_)
  show wpAny _ _ (field (.ref e) 4 >>= _) _ _ ⟨h₁, g, d, tk, os⟩
  refine wpAny_bind (wpAny_field he₁ rfl (x := .none) rfl ?_)
  show wpAny _ _ (mkInt i >>= _) _ _ ⟨h₁, g, d, tk, os⟩
  refine wpAny_bind (wpAny_mkInt ?_)
  show wpAny _ _ (setField (.ref e) 3 (rawInt ((i : Int) + 1)) >>= _) _ _ ⟨h₁, g, d, tk + 1, os⟩
  refine wpAny_bind (wpAny_setField_rec he₁ (by simp) fun h₂ he₂ hs₂ => ?_)
  replace hs₂ : Heap.SameBut e h₁ h₂ := hs₂
  replace he₂ : IsEnum h₂ e it ((i : Int) + 1) old := he₂
  show wpAny _ _ (setField (.ref e) 4 .none >>= _) _ _ ⟨h₂, g, d, tk + 1, os⟩
  refine wpAny_bind (wpAny_setField_rec he₂ (by simp) fun h₃ he₃ hs₃ => ?_)
  replace hs₃ : Heap.SameBut e h₂ h₃ := hs₃
  replace he₃ : IsEnum h₃ e it ((i : Int) + 1) old := he₃
  show wpAny _ _ (newTuple [.int i tk, x] >>= _) _ _ ⟨h₃, g, d, tk + 1, os⟩
  refine wpAny_bind (wpAny_newTuple ?_)
  have he₄ : IsEnum (h₃.push { cls := .type "tuple", data := .seq #[.int i tk, x] }) e it ((i : Int) + 1) old := Heap.get?_push_of_some _ he₃
  generalize hh₄ : h₃.push { cls := .type "tuple", data := .seq #[.int i tk, x] } = h₄ at he₄
  have hsz : h₃.objs.size = hp.objs.size := by rw [hs₃.1, hs₂.1, hs₁.1]
  have hel : e < hp.objs.size := Heap.lt_size he
  have ht₄ : h₄.get? hp.objs.size = some { cls := .type "tuple", data := .seq #[.int i tk, x] } := by rw [← hh₄, ← hsz]; exact Heap.get?_push_size _ rfl
  have hz₄ : h₄.objs.size = hp.objs.size + 1 := by rw [← hh₄, Heap.size_push, hsz]
  have hk₄ : ∀ b o, b ≠ e → b ≠ it → hp.get? b = some o → h₄.get? b = some o := fun b o hbe hbi hb => by
    rw [← hh₄]; exact Heap.get?_push_of_some _ (hs₃.extBut b o hbe (hs₂.extBut b o hbe (hs₁.extBut b o hbi hb)))
  have hit₄ : h₄.IsTupleIter it l (i + 1) := by
    rw [← hh₄]; obtain ⟨o, ho, r⟩ := (hit₁.extBut hs₂.extBut (Ne.symm hne)).extBut hs₃.extBut (Ne.symm hne); exact ⟨o, Heap.get?_push_of_some _ ho, r⟩
  show wpAny _ _ (Builtin.SmallTypes.ownedTupleIsFree (.ref e) >>= _) _ _ ⟨h₄, g, d, tk + 1, os⟩
  rw [hsz]
  clear hh₄ he₃ hs₃ he₂ hs₂ he₁ hs₁ hit₁ hsz h₃ h₂ h₁
  refine wpAny_bind ?_
  · unfold Builtin.SmallTypes.ownedTupleIsFree
    refine wpAny_bind (wpAny_field he₄ rfl (x := .none) rfl (wpAny_pure ?_))
    simp only [if_true]
    refine wpAny_bind (wpAny_rule ?_)
    refine wpAny_bind (wpAny_field he₄ rfl (x := old) rfl ?_)
    refine wpAny_bind (wpAny_setField_rec he₄ (by simp) fun h₅ he₅ hs₅ => ?_)
    replace hs₅ : Heap.SameBut e h₄ h₅ := hs₅
    replace he₅ : IsEnum h₅ e it ((i : Int) + 1) x := he₅
    show wpAny _ _ (Builtin.SmallTypes.ownedTupleHandOut (.ref e) (.ref hp.objs.size) >>= _) _ _ ⟨h₅, g, d, tk + 1, os⟩
    refine wpAny_bind ?_
    · unfold Builtin.SmallTypes.ownedTupleHandOut
      refine wpAny_bind (wpAny_setField_rec he₅ (by simp) fun h₆ he₆ hs₆ => ?_)
      replace hs₆ : Heap.SameBut e h₅ h₆ := hs₆
      replace he₆ : IsEnumOut h₆ e it ((i : Int) + 1) x hp.objs.size := he₆
      refine wpAny_setField_rec he₆ (by simp) fun h₇ he₇ hs₇ => ?_
      replace hs₇ : Heap.SameBut e h₆ h₇ := hs₇
      replace he₇ : IsEnumOut h₇ e it ((i : Int) + 1) x hp.objs.size := he₇
      refine wpAny_bind (wpAny_letGo (wpAny_pure ⟨_, rfl, hQ h₇ he₇ ?_ ?_ ?_ ?_⟩))
      · exact ((hit₄.extBut hs₅.extBut (Ne.symm hne)).extBut hs₆.extBut (Ne.symm hne)).extBut hs₇.extBut (Ne.symm hne)
      · exact hs₇.extBut _ _ (Nat.ne_of_gt hel) (hs₆.extBut _ _ (Nat.ne_of_gt hel) (hs₅.extBut _ _ (Nat.ne_of_gt hel) ht₄))
      · rw [hs₇.1, hs₆.1, hs₅.1, hz₄]
      · exact fun b o hbe hbi hb => hs₇.extBut b o hbe (hs₆.extBut b o hbe (hs₅.extBut b o hbe (hk₄ b o hbe hbi hb)))

theorem wpAny_pyNext_enumT_item {e it l : Addr} {i : Nat} {items : Array Value} {x old : Value} {Q : Option Value → Shared → Prop}
    (he : IsEnum s.heap e it i old) (hit : s.heap.IsTupleIter it l i) (hl : s.heap.IsTuple l items) (hx : items[i]? = some x) (hne : e ≠ it)
    (hQ : ∀ h', IsEnumOut h' e it ((i : Int) + 1) x s.heap.objs.size → h'.IsTupleIter it l (i + 1) →
      h'.get? s.heap.objs.size = some { cls := .type "tuple", data := .seq #[.int i s.toks, x] } → h'.objs.size = s.heap.objs.size + 1 →
      (∀ b o, b ≠ e → b ≠ it → s.heap.get? b = some o → h'.get? b = some o) → Q (some (.ref s.heap.objs.size)) { s with heap := h', toks := s.toks + 1 }) :
    wpAny (model prog w) A (pyNext (.ref e)) Q E s := by
  have hT : s.TypeIs (.ref e) "enumerate" := ⟨_, he, rfl⟩
  unfold pyNext
  exact wpAny_bind (wpAny_attempt (wpAny_callSpecial?_slot (name := Str.ofString "__next__") hT F.slot_enumerate_next
    (wpAny_call_entry F.slot_enumerate_next hT F.entry_enumerate_next
      (enumT_next_item he hit hl hx hne fun h' a b c d k => wpAny_pure (hQ h' a b c d k)) (F.args_enumerate_next_1 _))))

theorem wpAny_pyNext_enumT_end {e it l : Addr} {i : Nat} {items : Array Value} {old : Value} {Q : Option Value → Shared → Prop} (hh : A.handled = none)
    (he : IsEnum s.heap e it i old) (hit : s.heap.IsTupleIter it l i) (hl : s.heap.IsTuple l items) (hx : items[i]? = none)
    (hQ : ∀ h', Heap.ExtBut it s.heap h' → Q none { s with heap := h' }) : wpAny (model prog w) A (pyNext (.ref e)) Q E s := by
  have hT : s.TypeIs (.ref e) "enumerate" := ⟨_, he, rfl⟩
  unfold pyNext
  refine wpAny_bind (wpAny_attempt (wpAny_callSpecial?_slot (name := Str.ofString "__next__") hT F.slot_enumerate_next
    (wpAny_call_entry F.slot_enumerate_next hT F.entry_enumerate_next ?_ (F.args_enumerate_next_1 _))))
  show wpAny _ _ (field (.ref e) 2 >>= _) _ _ _
  refine wpAny_bind (wpAny_field he rfl (x := .ref it) rfl ?_)
  refine wpAny_bind (nextOf_tuple_end hh hit hl hx fun h' x he' hx' => ?_)
  obtain ⟨o, ho, hc⟩ := hx'
  refine wpAny_bind (wpAny_isInstance (T := "StopIteration") (b := true) ⟨o, ho, hc⟩ isSubtype_stop ?_)
  exact wpAny_pure (hQ _ he')
theorem call_enumerate_tuple {l : Addr} {items : Array Value} {Q : Value → Shared → Prop} (hL : s.heap.IsTuple l items)
    (h : ∀ h', IsEnum h' (s.heap.objs.size + 1) s.heap.objs.size 0 .none → h'.IsTupleIter s.heap.objs.size l 0 → h'.objs.size = s.heap.objs.size + 2 →
      (∀ b o, s.heap.get? b = some o → h'.get? b = some o) → Q (.ref (s.heap.objs.size + 1)) { s with heap := h' }) :
    wpAny (model prog w) A (call (.type "enumerate") [.ref l]) Q E s := by
  obtain ⟨⟨c, dct, dt, sl⟩, hl, hc, n, hd⟩ := hL
  replace hc : c = .type "tuple" := hc
  replace hd : dt = .seq items n := hd
  subst hc hd
  refine callType_new F.called_enumerate (by decide) (F.typeCall_enumerate_1 _) (F.newCall_enumerate_1 _) (fun obj => F.args_object_init_2 obj _) F.entry_enumerate_new
    (meets_enumerate_newT l items n dct sl) ⟨hl, ?_⟩
  have hz : (s.heap.push { cls := .type "tuple_iterator", data := .fields #[.ref l, .int 0 0] }).objs.size = s.heap.objs.size + 1 := Heap.size_push ..
  show _ ∧ _
  rw [hz]
  have he : IsEnum ((s.heap.push { cls := .type "tuple_iterator", data := .fields #[.ref l, .int 0 0] }).push
      { cls := .type "enumerate", data := .fields #[.none, .bool false, .ref s.heap.objs.size, rawInt 0, .none, .none] }) (s.heap.objs.size + 1) s.heap.objs.size 0 .none := by
    have := Heap.get?_push_size (s.heap.push { cls := .type "tuple_iterator", data := .fields #[.ref l, .int 0 0] })
      (o := { cls := .type "enumerate", data := .fields #[.none, .bool false, .ref s.heap.objs.size, rawInt 0, .none, .none] }) rfl
    rw [hz] at this; exact this
  refine ⟨⟨_, he, rfl⟩, h _ he ⟨_, Heap.get?_push_of_some _ (Heap.get?_push_size _ rfl), rfl, rfl⟩ (by rw [Heap.size_push, hz]) fun b o x => Heap.get?_push_of_some _ (Heap.get?_push_of_some _ x)⟩

end
def IteT (K : PySem.W.Frag) (a : Addr) : It :=
  ⟨fun i H => ∃ (xs : List V) (x : V), SqT K H a xs ∧ xs[i]? = some x, fun i H v H' => ∃ T x, v = .ref T ∧ H T = none ∧ H' = upd H T (.tup [.int (i : Nat), x]) ∧ ∀ xs, SqT K H a xs → xs[i]? = some x, fun i H => ∃ xs : List V, SqT K H a xs ∧ xs.length ≤ i⟩
theorem turn_enumT {P : Program} {w : World} {K : PySem.W.Frag} {elts : List Expr} {kk : Nat} {tpos : Pos} (a e it : Addr) :
    Turn P w K (.Tuple elts kk tpos) (IteT K a) [e, it] e (fun i h => (∃ old, IsEnum h e it ((i : Nat) : Int) old) ∧ h.IsTupleIter it a i ∧ e ≠ it) where
  mem := by simp
  obj := fun i h st b hb => by
    obtain ⟨⟨old, he⟩, ⟨o, ho, hc, hd⟩, _⟩ := st
    have e' : b = e ∨ b = it := by simpa using hb
    rcases e' with z | z
    · rw [z]; exact ⟨_, he, fun v q => nomatch q⟩
    · rw [z]; exact ⟨o, ho, fun v q => by rw [hd] at q; cases q⟩
  keep := fun i h h' st k => let ⟨⟨old, he⟩, hi, hne⟩ := st; ⟨⟨old, k e (by simp) _ he⟩, hi.at fun o q => k it (by simp) o q, hne⟩
  item := by
    intro X hP hw hK hc i pins s σ H E I hf st hg
    subst hP hw hK
    obtain ⟨⟨old, he⟩, hit, hne⟩ := st
    obtain ⟨xs, x, hq, hx⟩ := hg
    obtain ⟨its, rv, p, hz⟩ := I.tuple hq
    obtain ⟨u, hu, ru⟩ := rv.get hx
    have hel : e < s.heap.objs.size := Heap.lt_size he
    have hil : it < s.heap.objs.size := by obtain ⟨_, q, _⟩ := hit; exact Heap.lt_size q
    refine wpAny_pyNext_enumT_item he hit p (x := u) (by simpa using hu) hne fun h' ho hit' hT hsz hk => ?_
    refine ⟨_, rfl, wpAny_letOwnedTupleGo_enum (s := { s with heap := h', toks := s.toks + 1 }) ho fun h'' he' sb => ?_⟩
    have hT2 : h''.get? s.heap.objs.size = some { cls := .type "tuple", data := .seq #[.int i s.toks, u] } := (sb.2 _ (Nat.ne_of_gt hel)).trans hT
    have new : ObjOk X.prog X.w (upd H s.heap.objs.size (.tup [.int (i : Nat), x])) h'' s.heap.objs.size (.tup [.int (i : Nat), x]) :=
      ⟨by show 2 ≤ sizeLine; decide, [.int i s.toks, u], .cons ⟨_, rfl⟩ (.cons ru .nil), ⟨_, hT2, rfl, _, rfl⟩⟩
    have I1 : Inv X pins σ (upd H s.heap.objs.size (.tup [.int (i : Nat), x])) { s with heap := h'', toks := s.toks + 1 } :=
      I.turnedNew (ch := [e, it]) (fun b ob hb q => (sb.2 b (fun z => hb (by simp [z]))).trans (hk b ob (fun z => hb (by simp [z])) (fun z => hb (by simp [z])) q)) hf (Nat.le_refl _) new
    refine ⟨.ref s.heap.objs.size, _, I1, rfl, ⟨_, x, rfl, I.hok.fresh (Nat.le_refl _), rfl, fun ys hy => by rw [I.tuple_inj hy hq]; exact hx⟩, ⟨⟨u, ?_⟩, hit'.at fun o q => (sb.2 it (Ne.symm hne)).trans q, hne⟩, fun b hb => ?_⟩
    · have e1 : ((i + 1 : Nat) : Int) = (i : Int) + 1 := by omega
      rw [e1]; exact he'
    · have hb' : b < s.heap.objs.size := by
        have e' : b = e ∨ b = it := by simpa using hb
        rcases e' with z | z
        · rw [z]; exact hel
        · rw [z]; exact hil
      rw [upd_ne (Nat.ne_of_lt hb')]
      exact (hf b hb).1
  done := by
    intro X hP hw hK hc i pins s σ H E I hf st hg
    subst hP hw hK
    obtain ⟨⟨old, he⟩, hit, hne⟩ := st
    obtain ⟨xs, hq, hx⟩ := hg
    obtain ⟨its, rv, p, hz⟩ := I.tuple hq
    obtain ⟨f0, f1, f2, f3, f4, f5⟩ := hf it (by simp)
    have hl := rv.length
    exact wpAny_pyNext_enumT_end (I.ok.hd hc) he hit p (by simp; omega) fun h' eb => ⟨rfl, I.turned (t' := s.toks) (fun b o hb q => eb b o hb q) f0 f1 f3 f4 f5⟩
  self := fun A i s Q E st h => let ⟨⟨_, he⟩, _⟩ := st; wpAny_pyIter_enum he h
def iEnumT (K : PySem.W.Frag) (ta : TA) : TI := fun σ H R => ta σ H fun vs H1 => ∃ a xs, vs = [.ref a] ∧ SqT K H1 a xs ∧ R (IteT K a) H1
theorem pi_enumT {X : Cx} {e : Expr} {ta : TA} {p pos tpos : Pos} {elts : List Expr} {kk : Nat} (hg : Gl X "enumerate") (hm : X.mg "enumerate" = none) (ha : PA X [e] ta) (hs : starEach [e] X.env = [(false, eval e X.env)] := by rfl) :
    PI X (.Tuple elts kk tpos) (.Call (.Name "enumerate" p) [e] [] pos) (iEnumT X.K ta) := by
  refine ⟨fun pins s σ H R I h => ?_⟩
  refine Call_ (ld_blt I hg hm boot_enumerate (PyProof.Rows.callWith_type1 (thn (ha.run pos pins s σ H _ I h) fun us s1 ⟨vs, H1, I1, r1, q1⟩ => ?_) hs rfl))
  obtain ⟨a, xs, ex, hq, q⟩ := q1
  subst ex
  cases r1 with
  | cons r rr =>
    cases rr
    cases r
    obtain ⟨its, rv, p', hz⟩ := I1.tuple hq
    refine call_enumerate_tuple p' fun h' he hit hsz hk => wpAny_pyIter_enum he ?_
    have I2 : Inv X pins σ H1 { s1 with heap := h' } := I1.kept (t' := s1.toks) hk
    refine ⟨s1.heap.objs.size + 1, [s1.heap.objs.size + 1, s1.heap.objs.size], _, _, H1, rfl, I2, turn_enumT a (s1.heap.objs.size + 1) s1.heap.objs.size, ⟨⟨.none, he⟩, hit, Nat.succ_ne_self _⟩, fun b hb => ?_, q⟩
    have e' : b = s1.heap.objs.size + 1 ∨ b = s1.heap.objs.size := by simpa using hb
    have hle : s1.heap.objs.size ≤ b := by
      rcases e' with z | z
      · rw [z]; exact Nat.le_add_right _ _
      · rw [z]; exact Nat.le_refl _
    exact I1.fpOk hle (I1.hok.fresh hle)

def dEnumT (d : D) : Option (List D) := (asT d).bind fun ds => some (enumL ds)
section
variable {K : PySem.W.Frag} {X : Cx} {a b : Expr} {ta tb : TE} {t : TE} {pos p tpos : Pos} {elts : List Expr} {kk : Nat}
theorem pid_enumT {g : DE → Option D} (hg : Gl X "enumerate") (hm : X.mg "enumerate" = none) (ha : PD K X a ta g) (na : starEach [a] X.env = (false, eval a X.env) :: starEach [] X.env := by rfl) (hs : starEach [a] X.env = [(false, eval a X.env)] := by rfl) :
    PId K (Dw K) X (.Tuple elts kk tpos) (.Call (.Name "enumerate" p) [a] [] pos) (iEnumT K (tCons ta tNil)) (e1 dEnumT g) :=
  ⟨fun k => by
      have := pi_enumT (elts := elts) (kk := kk) (tpos := tpos) (p := p) (pos := pos) hg hm (pa_cons (ha.pe k) pa_nil na) hs
      rw [k] at this
      exact this, fun F0 H0 F ρ σ H zs r hgd Q q => by
    obtain ⟨d, h1, h2⟩ := bindSome hgd
    obtain ⟨ds, h3, h4⟩ := bindSome h2
    cases h4
    refine ha.ok F0 H0 F ρ σ H d r h1 _ fun v F' H' ex dp => ?_
    cases d <;> simp only [asT] at h3 <;> cases h3
    cases dp with
    | @tup a vs _ sq al =>
      refine ⟨a, vs, rfl, SqT.mono ex.i sq.t, q _ F' H' ex fun i F H s1 s2 => ?_⟩
      have sq' : SqT K H a vs := SqT.mono (s1.trans s2) sq.t
      refine ⟨fun z hz => ?_, fun hz => ⟨vs, sq', ?_⟩⟩
      · obtain ⟨d, hd, rfl⟩ := enumL_get hz
        obtain ⟨v, hv, dp⟩ := DpAll.get' al hd
        refine ⟨⟨vs, v, sq', hv⟩, fun x H'' y => ?_⟩
        obtain ⟨T, w, rfl, hT, rfl, hw⟩ := y
        have := hw vs sq'
        rw [hv] at this
        cases this
        exact ⟨_, Ext.new s2 hT, T, _, _, rfl, rfl, SqT.of upd_same, .cons (.int _) (.cons (Dp.mono (s1.trans (same_upd (s2.free hT))) dp) .nil)⟩
      · rw [DpAll.length al, ← enumL_len]; exact List.getElem?_eq_none_iff.mp hz⟩
end
end DL

namespace DL
open PySem PySem.Spec L2

/-! ### members, once each -/
def dist : List Int → List Int
  | [] => []
  | x :: xs => if x ∈ xs then dist xs else x :: dist xs
theorem mem_dist {k : Int} : ∀ {xs : List Int}, k ∈ dist xs ↔ k ∈ xs
  | [] => Iff.rfl
  | x :: xs => by
    unfold dist
    split
    · rename_i h
      rw [mem_dist, List.mem_cons]
      exact ⟨.inr, fun z => z.elim (fun e => e ▸ h) id⟩
    · rw [List.mem_cons, List.mem_cons, mem_dist]
theorem nodup_dist : ∀ (xs : List Int), (dist xs).Nodup
  | [] => List.nodup_nil
  | x :: xs => by
    unfold dist
    split
    · exact nodup_dist xs
    · rename_i h
      exact List.nodup_cons.mpr ⟨fun z => h (mem_dist.mp z), nodup_dist xs⟩
theorem len_sub : ∀ {xs ys : List Int}, xs.Nodup → (∀ k ∈ xs, k ∈ ys) → xs.length ≤ ys.length
  | [], _, _, _ => Nat.zero_le _
  | x :: xs, ys, nd, h => by
    obtain ⟨h1, h2⟩ := List.nodup_cons.mp nd
    have hx : x ∈ ys := h x List.mem_cons_self
    have := len_sub (ys := ys.erase x) h2 fun k hk => by
      have hne : k ≠ x := fun z => h1 (z ▸ hk)
      exact (List.mem_erase_of_ne hne).mpr (h k (List.mem_cons_of_mem _ hk))
    rw [List.length_erase_of_mem hx] at this
    have : 0 < ys.length := List.length_pos_of_mem hx
    rw [List.length_cons]
    omega
theorem len_same {xs ys : List Int} (h1 : xs.Nodup) (h2 : ys.Nodup) (h : ∀ k, k ∈ xs ↔ k ∈ ys) : xs.length = ys.length :=
  Nat.le_antisymm (len_sub h1 fun k hk => (h k).mp hk) (len_sub h2 fun k hk => (h k).mpr hk)
/-- put in its place -/
def ins (x : Int) : List Int → List Int
  | [] => [x]
  | y :: ys => if x ≤ y then x :: y :: ys else y :: ins x ys
def isort : List Int → List Int
  | [] => []
  | x :: xs => ins x (isort xs)
theorem mem_ins {x k : Int} : ∀ {ys : List Int}, k ∈ ins x ys ↔ k = x ∨ k ∈ ys
  | [] => by simp [ins]
  | y :: ys => by
    unfold ins
    split
    · simp
    · rw [List.mem_cons, mem_ins, List.mem_cons]
      exact ⟨fun z => z.elim (fun e => .inr (.inl e)) fun z => z.elim .inl fun e => .inr (.inr e), fun z => z.elim (fun e => .inr (.inl e)) fun z => z.elim .inl fun e => .inr (.inr e)⟩
theorem perm_ins (x : Int) : ∀ ys : List Int, (ins x ys).Perm (x :: ys)
  | [] => .refl _
  | y :: ys => by
    unfold ins
    split
    · exact .refl _
    · exact ((perm_ins x ys).cons y).trans (.swap x y ys)
theorem perm_isort : ∀ xs : List Int, (isort xs).Perm xs
  | [] => .refl _
  | x :: xs => (perm_ins x _).trans ((perm_isort xs).cons x)
theorem up_ins {x : Int} : ∀ {ys : List Int}, ys.Pairwise (· ≤ ·) → (ins x ys).Pairwise (· ≤ ·)
  | [], _ => List.pairwise_singleton _ _
  | y :: ys, h => by
    obtain ⟨h1, h2⟩ := List.pairwise_cons.mp h
    unfold ins
    split
    · rename_i hx
      refine List.pairwise_cons.mpr ⟨fun k hk => ?_, h⟩
      rcases List.mem_cons.mp hk with rfl | hk
      · exact hx
      · exact Int.le_trans hx (h1 k hk)
    · rename_i hx
      refine List.pairwise_cons.mpr ⟨fun k hk => ?_, up_ins h2⟩
      rcases mem_ins.mp hk with rfl | hk
      · omega
      · exact h1 k hk
theorem up_isort : ∀ xs : List Int, (isort xs).Pairwise (· ≤ ·)
  | [] => List.Pairwise.nil
  | x :: xs => up_ins (up_isort xs)
theorem isort_of {xs ns : List Int} (p : ns.Perm xs) (h : ns.Pairwise (· ≤ ·)) : ns = isort xs :=
  (p.trans (perm_isort xs).symm).eq_of_pairwise (fun x y _ _ a b => Int.le_antisymm a b) h (up_isort xs)
theorem perm_of_mem {xs ys : List Int} (h1 : xs.Nodup) (h2 : ys.Nodup) (h : ∀ k, k ∈ xs ↔ k ∈ ys) : xs.Perm ys := by
  rw [List.perm_iff_count]
  intro k
  by_cases hk : k ∈ xs
  · rw [List.Nodup.count h1, List.Nodup.count h2, if_pos hk, if_pos ((h k).mp hk)]
  · rw [List.count_eq_zero_of_not_mem hk, List.count_eq_zero_of_not_mem fun z => hk ((h k).mpr z)]

/-! ### set(xs) of a list of ints -/
section
variable {P : Program} {w : World} {A : Around} {E : Value → Shared → Prop} {s : Shared}
abbrev setO (w : World) : Obj := { cls := .type "set", dict := none, data := .set #[] 0 (.fresh 0 0 (!w.params.followText "set-order")) }
theorem call_setL {l : Addr} {items : Array Value} (ns : List Int) {Q : Value → Shared → Prop} (hh : A.handled = none) (hl : s.heap.IsList l items) (hit : PyProof.Rows.IntsAre items.toList ns) (hb : ns.length + 1 < scanBound)
    (h : ∀ (h' : Heap) (tk c : Nat), SetR w h' s.heap.objs.size (fun j => decide (j ∈ ns)) c → c ≤ ns.length → (∀ b o, s.heap.get? b = some o → h'.get? b = some o) → Q (.ref s.heap.objs.size) { s with heap := h', toks := tk }) : wpAny (model P w) A (call (.type "set") [.ref l]) Q E s := by
  have hn : items.size = ns.length := by
    have z := PyProof.Rows.IntsAre.length hit
    rwa [Array.length_toList] at z
  obtain ⟨cc, tl, hmro⟩ := PySem.F.called_set.mro
  have f1 := PySem.F.called_set.made
  have f2 := PySem.F.called_set.sub
  refine wpAny_call (codeAny_of_tree ?_)
  show wpAny _ _ (callAny (.type "set") _) _ _ _
  refine wpAny_pure ⟨Code.quiet_builtin _ (by decide +kernel), codeAny_builtin PySem.F.entry_type_call ?_⟩
  rw [Around.under_plain (PySem.weight_type_call_type "set" [.ref l] []) rfl]
  have f3 := PySem.F.called_set.notType
  have f4 := PySem.F.called_set.canCreate
  have f5 := PySem.F.typeCall_set_1 (.ref l)
  repeat (any_goals (first | assumption | wp_step))
  refine codeAny_mono (code_set_led1 (.ref l) (E := E) (Q₁ := fun ob s₁ => ob = .ref s.heap.objs.size ∧ s₁ = { s with heap := s.heap.push (setO w) }) ⟨rfl, rfl⟩) fun r s₁ hr => ?_
  cases r with
  | error e => exact hr
  | ok fl =>
    cases fl with
    | next => exact hr.elim
    | brk => exact hr.elim
    | cont => exact hr.elim
    | ret ob =>
      obtain ⟨rfl, rfl⟩ := hr
      have hS : (s.heap.push (setO w)).get? s.heap.objs.size = some (setO w) := Heap.get?_push_size _ rfl
      have hT : Shared.TypeIs { s with heap := s.heap.push (setO w) } (.ref s.heap.objs.size) "set" := ⟨_, hS, rfl⟩
      have g1 := PySem.F.called_set.init.lookup
      have g2 := PySem.F.called_set.init.bind (.ref s.heap.objs.size)
      repeat (any_goals (first | assumption | wp_step))
      refine codeAny_mono (codeAny_call_builtin (R := wants (fun r s₂ => r = .none ∧ ∃ h' tk c, s₂ = { s with heap := h', toks := tk } ∧ SetR w h' s.heap.objs.size (fun j => decide (j ∈ ns)) c ∧ c ≤ ns.length ∧ (∀ b o, s.heap.get? b = some o → h'.get? b = some o)) E)
        PySem.F.called_set.init.plain PySem.F.entry_set_init (PySem.check_set_init_1 hT ?_)) fun r₂ s₂ hr₂ => ?_
      · obtain ⟨⟨ocls, odict, odata, oslots⟩, hol, hcl, nl, hdl⟩ := hl
        simp only at hcl hdl
        subst hcl; subst hdl
        have hol' : (s.heap.push (setO w)).get? l = some { cls := .type "list", dict := odict, data := .seq items nl, slots := oslots } := Heap.get?_push_of_some _ hol
        have k1 := PySem.F.sub_list_set
        have k2 := PySem.F.sub_list_frozenset
        have hl1 : (s.heap.push (setO w)).IsList l items := ⟨_, hol', rfl, nl, rfl⟩
        unfold Builtin.«set.__init__» noKeywords Builtin.Frozenset.updateFrom
        generalize hPI : pyIter = PI
        wp_walk
        subst hPI
        refine wpAny_pyIter_list hl1 ?_
        refine wpAny_bind (wpAny_runValue ?_)
        have hlS : l < s.heap.objs.size := Heap.lt_size hol
        have hA : A.in1.in1.in1.handled = none := by simp [hh]
        have hI : l ≠ (s.heap.push (setO w)).objs.size := by rw [Heap.size_push]; exact fun z => Nat.lt_irrefl _ (z ▸ Nat.lt_succ_of_lt hlS)
        have hSf : s.heap.objs.size ∉ [(s.heap.push (setO w)).objs.size, l] := by
          rw [Heap.size_push]
          simp only [List.mem_cons, List.not_mem_nil, or_false, not_or]
          exact ⟨fun z => Nat.succ_ne_self _ z.symm, fun z => Nat.lt_irrefl _ (z ▸ hlS)⟩
        have hval : ∀ (i : Nat) (v : Value), items[i]? = some v → ∃ k t, ns[i]? = some k ∧ v = .int k t := fun i v hv => by
          have hi : i < ns.length := by rw [← hn]; exact (Array.getElem?_eq_some_iff.mp hv).1
          obtain ⟨t, e⟩ := PyProof.Rows.IntsAre.int_at hit i v (by rw [Array.getElem?_toList]; exact hv)
          refine ⟨ns[i], t, List.getElem?_eq_getElem hi, ?_⟩
          rw [e, List.getD_eq_getElem?_getD, List.getElem?_eq_getElem hi] <;> rfl
        refine set_update_ints ((Walks.list hA _ l hI items).toS) s.heap.objs.size hSf ns hn hb hval (items.size - 0) 0 _ (by omega) (Nat.zero_le _) ⟨⟨_, Heap.get?_push_size _ rfl, rfl, rfl⟩, (hl1.push _)⟩ ?hS0 ?hR
        case hS0 => exact ⟨0, Nat.le_refl 0, setR_new_at (Heap.get?_push_of_some _ hS)⟩
        case hR =>
          intro s' c' hm hc' hS'
          obtain ⟨h', g', d', tk', os'⟩ := s'
          obtain rfl : g' = s.gens := hm.gens
          obtain rfl : d' = s.drawn := hm.drawn
          obtain rfl : os' = s.os := hm.os
          show wpAny _ _ _ _ _ _
          refine wpAny_pure ?_
          show wpAny _ _ (ret Value.none) _ _ _
          rw [hn] at hc'
          refine wpAny_pure ⟨rfl, h', tk', c', rfl, hS', hc', fun b o e => ?_⟩
          have b0 : b < s.heap.objs.size := Heap.lt_size e
          refine hm.heap b o ?_ (Heap.get?_push_of_some _ (Heap.get?_push_of_some _ e))
          simp only [List.mem_cons, List.not_mem_nil, or_false, not_or, Heap.size_push]
          exact ⟨fun z => Nat.lt_irrefl _ (z ▸ b0), fun z => Nat.lt_irrefl _ (z ▸ Nat.lt_succ_of_lt b0)⟩
      · cases r₂ with
        | error e => exact hr₂
        | ok fl₂ =>
          cases fl₂ with
          | ret r =>
            obtain ⟨rfl, h', tk, c', rfl, hS', hc', hk'⟩ := hr₂
            repeat (any_goals (first | assumption | wp_step))
            exact h _ _ _ hS' hc' hk'
          | next => exact hr₂.elim
          | brk => exact hr₂.elim
          | cont => exact hr₂.elim
end
section
variable {X : Cx}
theorem intsOf : ∀ {ns : List Int} {us : List Value}, Vals (ns.map V.int) us → PyProof.Rows.IntsAre us ns := fun {ns us} r => RZ.intsAre_vals r
/-- set(a): a set of its members -/
def rSet (w : World) (K : PySem.W.Frag) (x : V) (H : Hp) (Q : Heap → Nat → Addr → Prop) : Prop := True
/-- len(set(a)), sorted(set(a)): a a list or tuple of ints -/
def tSetOf (K : PySem.W.Frag) (ta : TE) (k : List Int → Hp → VK → Prop) : TE := fun σ H Q => ta σ H fun x H1 => ∃ (l : Addr) (ns : List Int), x = .ref l ∧ (SqL K H1 l (ns.map V.int) ∨ SqT K H1 l (ns.map V.int)) ∧ ns.length ≤ 4000 ∧ k ns H1 Q
theorem set_run {a : Expr} {ta : TE} {pins : List (Addr × Obj)} {σ : L2.St} {H1 : Hp} {s1 : Shared} {l : Addr} {ns : List Int} {Q : Value → Shared → Prop} {Ex : Value → Shared → Prop} (hc : X.calm = true) (I1 : Inv X pins σ H1 s1) (hq : SqL X.K H1 l (ns.map V.int) ∨ SqT X.K H1 l (ns.map V.int)) (hl : ns.length ≤ 4000)
    (hQ : ∀ (h' : Heap) (tk c : Nat), SetR X.w h' s1.heap.objs.size (fun j => decide (j ∈ ns)) c → Inv X pins σ H1 { s1 with heap := h', toks := tk } → (∀ b o, s1.heap.get? b = some o → h'.get? b = some o) → Q (.ref s1.heap.objs.size) { s1 with heap := h', toks := tk }) :
    wpAny (model X.prog X.w) X.A (call (.type "set") [.ref l]) Q Ex s1 := by
  have hb : ns.length + 1 < scanBound := by unfold scanBound; omega
  rcases hq with hq | hq
  · obtain ⟨us, r, pl, hz⟩ := I1.list hq
    exact call_setL ns (I1.ok.hd hc) pl.isList (by simpa using intsOf r) hb fun h' tk c hS _ hk => hQ h' tk c hS (I1.kept (t' := tk) hk) hk
  · obtain ⟨us, r, pl, hz⟩ := I1.tuple hq
    obtain ⟨o, ho, hcl, n, hd⟩ := pl
    exact call_set_tupI ns (I1.ok.hd hc) ⟨o, ho, hcl, n, hd⟩ (by simpa using intsOf r) hb fun h' tk c hS _ hk => hQ h' tk c hS (I1.kept (t' := tk) hk) hk
theorem set_count {w : World} {h : Heap} {a : Addr} {ns : List Int} {c : Nat} (hS : SetR w h a (fun j => decide (j ∈ ns)) c) : c = (dist ns).length := by
  obtain ⟨o, es, ep, t, ho, hex, hd, _, nd, hm, _, hf, hn, _⟩ := hS
  rw [← hn, show es.size = (es.toList.map keyOf).length by simp]
  refine len_same nd (nodup_dist ns) fun k => ?_
  rw [← hm k, mem_dist]
  exact decide_eq_true_iff
theorem pe_lenSetA {a : Expr} {ta : TE} {p p2 q pos : Pos} (hc : X.calm = true) (hg : Gl X "len") (hm : X.mg "len" = none) (hg2 : Gl X "set") (hm2 : X.mg "set" = none) (ha : PE X a ta) (na : starEach [a] X.env = (false, eval a X.env) :: starEach [] X.env) :
    PE X (.Call (.Name "len" p) [.Call (.Name "set" p2) [a] [] q] [] pos) (tSetOf X.K ta fun ns H Q => Q (.int (dist ns).length) H) := by
  refine ⟨fun pins s σ H Q I h => PyProof.Rows.Call_ (ld_blt I hg hm PySem.boot_len ?_)⟩
  refine PyProof.Rows.callWith_builtin1 (PyProof.Rows.args_cons ?_ rfl) rfl rfl
  refine PyProof.Rows.Call_ (ld_blt I hg2 hm2 (show bootBuiltins ("set" : Str) = some (.type "set") by decide +kernel) ?_)
  refine PyProof.Rows.callWith_type1 (PyProof.Rows.args_cons (thn (ha.run pins s σ H _ I h) fun v s1 ⟨x, H1, I1, r1, q1⟩ => PyProof.Rows.args_nil ?_) na) na rfl
  obtain ⟨l, ns, rfl, hq, hl, q1⟩ := q1
  cases r1
  refine set_run (a := a) (ta := ta) hc I1 hq hl fun h' tk c hS I2 hk => PyProof.Rows.args_nil ?_
  have hcnt := set_count hS
  obtain ⟨o, es, ep, t, ho, hex, hd, _, nd, hmm, hsz, hf, hn, _⟩ := hS
  refine call_len_set ho hex hd hf (by unfold scanBound at hsz; omega) ⟨.int (dist ns).length, H1, I2.tok _, ⟨_, by rw [hn, hcnt]⟩, q1⟩
theorem pe_sortedSetA {a : Expr} {ta : TE} {p p2 q pos : Pos} (hc : X.calm = true) (hg : Gl X "sorted") (hm : X.mg "sorted" = none) (hg2 : Gl X "set") (hm2 : X.mg "set" = none) (ha : PE X a ta) (na : starEach [a] X.env = (false, eval a X.env) :: starEach [] X.env) :
    PE X (.Call (.Name "sorted" p) [.Call (.Name "set" p2) [a] [] q] [] pos) (tSetOf X.K ta fun ns H Q => (dist ns).length < 64 ∧ ∀ z, H z = none → Q (.ref z) (upd H z (.lst ((isort (dist ns)).map V.int)))) := by
  refine ⟨fun pins s σ H Q I h => PyProof.Rows.Call_ (ld_blt I hg hm (show bootBuiltins ("sorted" : Str) = some (.builtin "sorted") by decide +kernel) ?_)⟩
  refine PyProof.Rows.callWith_builtin1 (PyProof.Rows.args_cons ?_ rfl) rfl rfl
  refine PyProof.Rows.Call_ (ld_blt I hg2 hm2 (show bootBuiltins ("set" : Str) = some (.type "set") by decide +kernel) ?_)
  refine PyProof.Rows.callWith_type1 (PyProof.Rows.args_cons (thn (ha.run pins s σ H _ I h) fun v s1 ⟨x, H1, I1, r1, q1⟩ => PyProof.Rows.args_nil ?_) na) na rfl
  obtain ⟨l, ns, rfl, hq, hl, h64, q1⟩ := q1
  cases r1
  refine set_run (a := a) (ta := ta) hc I1 hq hl fun h' tk c hS I2 hk => PyProof.Rows.args_nil ?_
  have hcnt := set_count hS
  refine sorted_set hS (I2.ok.hd hc) (by omega) fun s' p out cc out2 kp g o hp hg hi hs hmm hll => ?_
  have e1 : out2 = isort (dist ns) := by
    refine isort_of (perm_of_mem ?_ (nodup_dist ns) fun k => ?_) (hs.imp fun h => Int.le_of_lt h)
    · exact hs.imp fun h => Int.ne_of_lt h
    · rw [hmm k, mem_dist]; exact decide_eq_true_iff
  subst e1
  have hn : H1 p = none := I2.hok.fresh hp
  have hlen : ((isort (dist ns)).map V.int).length ≤ sizeLine := by rw [List.length_map, hll, sizeLine_eq]; omega
  obtain ⟨hh, gg, dd, tt, oo⟩ := s'
  obtain rfl : oo = s1.os := o
  have J : Inv X pins σ (upd H1 p (.lst ((isort (dist ns)).map V.int))) { heap := hh, gens := gg, drawn := dd, toks := tt, os := s1.os } :=
    Inv.call (s := { s1 with heap := h', toks := tk }) I2 (ch := []) (Un.laid kp hp hn) (I2.hok.laid kp hp ⟨hlen, out.toList, cc, vals_of_ints hi, hg⟩) (by rw [show gg = _ from g]; exact I2.bare) (fun _ z => nomatch z)
  exact ⟨.ref p, _, J, rfl, q1 p hn⟩
end
/-- a list or tuple of ints, some 4,000 at most -/
def asSet (d : D) : Option (List Int) := ((asSeq d).bind asIs).bind fun ns => if ns.length ≤ 4000 then some ns else none
def dLenSet (d : D) : Option D := (asSet d).bind fun ns => some (.int ((dist ns).length : Nat))
def lSortSet (d : D) : Option (List D) := (asSet d).bind fun ns => if (dist ns).length < 64 then some ((isort (dist ns)).map PyData.int) else none
section
variable {K : PySem.W.Frag} {X : Cx} {a : Expr} {ta : TE} {g : DE → Option D} {p p2 q pos : Pos}
theorem asSet_dp {H : Hp} {v : V} {d : D} {ns : List Int} (dp : Dp K H v d) (h : asSet d = some ns) : ∃ l, v = .ref l ∧ (SqL K H l (ns.map V.int) ∨ SqT K H l (ns.map V.int)) ∧ ns.length ≤ 4000 := by
  obtain ⟨ms, h1, h2⟩ := bindSome h
  obtain ⟨ds, h3, h4⟩ := bindSome h1
  split at h2
  · cases h2
    have := asIs_some h4
    subst this
    cases d <;> simp only [asSeq] at h3 <;> cases h3
    · cases dp with
      | lst sq al => exact ⟨_, rfl, .inl (DpAll.ints al ▸ sq), by assumption⟩
    · cases dp with
      | tup sq al => exact ⟨_, rfl, .inr (DpAll.ints al ▸ sq.t), by assumption⟩
  · cases h2
theorem pd_lenSet (hc : X.calm = true) (hg : Gl X "len") (hm : X.mg "len" = none) (hg2 : Gl X "set") (hm2 : X.mg "set" = none) (ha : PB K X a ta g) (na : starEach [a] X.env = (false, eval a X.env) :: starEach [] X.env := by rfl) :
    PD K X (.Call (.Name "len" p) [.Call (.Name "set" p2) [a] [] q] [] pos) (tSetOf K ta fun ns H Q => Q (.int (dist ns).length) H) (e1 dLenSet g) :=
  ⟨fun k => by
      have := pe_lenSetA (p := p) (p2 := p2) (q := q) (pos := pos) hc hg hm hg2 hm2 (ha.pe k) na
      rw [k] at this
      exact this, fun F0 H0 F ρ σ H d r hgd Q q => by
    obtain ⟨d1, h1, h2⟩ := bindSome hgd
    obtain ⟨ns, h3, h4⟩ := bindSome h2
    cases h4
    refine ha.ok F0 H0 F ρ σ H d1 r h1 _ fun v F1 H1 x1 dp => ?_
    obtain ⟨l, rfl, h5, h6⟩ := asSet_dp dp h3
    exact ⟨l, ns, rfl, h5, h6, q _ F1 H1 x1 (.int _)⟩⟩
theorem pn_sortedSet (hc : X.calm = true) (hg : Gl X "sorted") (hm : X.mg "sorted" = none) (hg2 : Gl X "set") (hm2 : X.mg "set" = none) (ha : PB K X a ta g) (na : starEach [a] X.env = (false, eval a X.env) :: starEach [] X.env := by rfl) :
    PN K X (.Call (.Name "sorted" p) [.Call (.Name "set" p2) [a] [] q] [] pos) (tSetOf K ta fun ns H Q => (dist ns).length < 64 ∧ ∀ z, H z = none → Q (.ref z) (upd H z (.lst ((isort (dist ns)).map V.int)))) (e1 lSortSet g) :=
  ⟨fun k => by
      have := pe_sortedSetA (p := p) (p2 := p2) (q := q) (pos := pos) hc hg hm hg2 hm2 (ha.pe k) na
      rw [k] at this
      exact this, fun F0 H0 F ρ σ H d r hgd Q q => by
    obtain ⟨d1, h1, h2⟩ := bindSome hgd
    obtain ⟨ns, h3, h4⟩ := bindSome h2
    split at h4
    · cases h4
      refine ha.ok F0 H0 F ρ σ H d1 r h1 _ fun v F1 H1 x1 dp => ?_
      obtain ⟨l, rfl, h5, h6⟩ := asSet_dp dp h3
      exact ⟨l, ns, rfl, h5, h6, by assumption, fun z hz => q z _ F1 _ (x1.trans (Ext.loose x1.i hz)) upd_same (x1.h.free hz) (x1.i.free hz) (DpAll.ofInts _)⟩
    · cases h4⟩
def lSorted (d : D) : Option (List D) := ((asL d).bind asIs).bind fun ns => some ((isort ns).map PyData.int)
theorem pn_sorted (hg : Gl X "sorted") (hm : X.mg "sorted" = none) (ha : PB K X a ta g) (na : starEach [a] X.env = (false, eval a X.env) :: starEach [] X.env := by rfl) (hpl : (backTo pos (starEach [] X.env)).any (·.1) = false := by rfl) :
    PN K X (.Call (.Name "sorted" p) [a] [] pos) (tCB (rSortedI K) (tCons ta tNil)) (e1 lSorted g) :=
  ⟨fun k => by have := cr_sortedI (X := X); rw [k] at this; exact pe_callB this hg hm (by decide +kernel) (pa_cons (ha.pe k) pa_nil na) (by decide) (by decide) na hpl, fun F0 H0 F ρ σ H d r hgd Q q => by
    obtain ⟨d1, h1, h2⟩ := bindSome hgd
    obtain ⟨ns, h3, h4⟩ := bindSome h2
    obtain ⟨ds, h5, h6⟩ := bindSome h3
    cases h4
    have := asIs_some h6
    subst this
    cases d1 <;> simp only [asL] at h5 <;> cases h5
    refine ha.ok F0 H0 F ρ σ H _ r h1 _ fun v F1 H1 x1 dp => ?_
    cases dp with
    | lst sq al =>
      have := DpAll.ints al
      subst this
      refine ⟨_, ns, rfl, sq, fun ns' z pm up hz => ?_⟩
      rw [isort_of pm up]
      exact q z _ F1 _ (x1.trans (Ext.loose x1.i hz)) upd_same (x1.h.free hz) (x1.i.free hz) (DpAll.ofInts _)⟩
end
end DL

namespace DL
open PySem PySem.Spec L2
/-! ### short words -/
/-- more turns than any loop takes -/
abbrev FUEL : Nat := 100000
section
variable {K : PySem.W.Frag} {X : Cx} {a b c : Expr} {ta tb tc : TE} {ga gb gc : DE → Option D} {pos p : Pos}
theorem u64 {k : Nat} {A : Around} (hr : Room k A) : A.units + 64 < cLine := hr.units
theorem u65 {k : Nat} {A : Around} (hr : Room k A) : A.units + 65 < cLine := by have := hr.un; omega

theorem pd_add (ha : PD K X a ta ga) (hb : PD K X b tb gb) : PD K X (.BinOp a .Add b pos) (tOp (rAddA K) ta tb) (e2 dAdd ga gb) := pd_op od_add (fun q => by rw [← q]; exact op_addA) ha hb
theorem pd_sub (ha : PD K X a ta ga) (hb : PD K X b tb gb) : PD K X (.BinOp a .Sub b pos) (tOp (rI0 fun i j => V.int (i - j)) ta tb) (e2 dSub ga gb) := pd_op od_sub (fun _ => op_sub) ha hb
theorem pd_mul (ha : PD K X a ta ga) (hb : PD K X b tb gb) : PD K X (.BinOp a .Mult b pos) (tOp (rMulA K) ta tb) (e2 dMul ga gb) := pd_op od_mul (fun q => by rw [← q]; exact op_mulA) ha hb
theorem pd_mod (ha : PD K X a ta ga) (hb : PD K X b tb gb) : PD K X (.BinOp a .Mod b pos) (tOp (rI (fun _ j => 0 < j) fun i j => V.int (i % j)) ta tb) (e2 dMod ga gb) := pd_op od_mod (fun _ => op_mod) ha hb
theorem pd_div (ha : PD K X a ta ga) (hb : PD K X b tb gb) : PD K X (.BinOp a .FloorDiv b pos) (tOp (rI CDivW fun i j => V.int (i / j)) ta tb) (e2 dDiv ga gb) := pd_op od_div (fun _ => op_fdivW) ha hb
theorem pd_pow (ha : PD K X a ta ga) (hb : PD K X b tb gb) : PD K X (.BinOp a .Pow b pos) (tOp (rI CPow fun i j => V.int (i ^ j.toNat)) ta tb) (e2 dPow ga gb) := pd_op od_pow (fun _ => op_pow) ha hb
theorem po_eq (hu : X.A.units + 64 < cLine) (ha : PB K X a ta ga) (hb : PB K X b tb gb) : PO' K X (.Compare a [.Eq] [b] pos) (tOp (rEqD K) ta tb) (e2 dEq ga gb) := pr_op ob_eq (fun q => by rw [← q]; exact op_eqD hu) ha hb
theorem pt_eq (hu : X.A.units + 64 < cLine) (ha : PB K X a ta ga) (hb : PB K X b tb gb) : PTd K X (.Compare a [.Eq] [b] pos) (tTest (tOp (rEqD K) ta tb)) (e2 dEq ga gb) := pt_op ob_eq (fun q => by rw [← q]; exact op_eqD hu) ha hb
theorem po_ne (hu : X.A.units + 64 < cLine) (ha : PB K X a ta ga) (hb : PB K X b tb gb) : PO' K X (.Compare a [.NotEq] [b] pos) (tOp (rNeD K) ta tb) (e2 dNe ga gb) := pr_op ob_ne (fun q => by rw [← q]; exact op_neD hu) ha hb
theorem pt_ne (hu : X.A.units + 64 < cLine) (ha : PB K X a ta ga) (hb : PB K X b tb gb) : PTd K X (.Compare a [.NotEq] [b] pos) (tTest (tOp (rNeD K) ta tb)) (e2 dNe ga gb) := pt_op ob_ne (fun q => by rw [← q]; exact op_neD hu) ha hb
theorem po_lt (ha : PB K X a ta ga) (hb : PB K X b tb gb) : PO' K X (.Compare a [.Lt] [b] pos) (tOp (rI0 fun i j => V.bl (decide (i < j))) ta tb) (e2 dLt ga gb) := pr_op ob_lt (fun _ => op_lt) ha hb
theorem pt_lt (ha : PB K X a ta ga) (hb : PB K X b tb gb) : PTd K X (.Compare a [.Lt] [b] pos) (tTest (tOp (rI0 fun i j => V.bl (decide (i < j))) ta tb)) (e2 dLt ga gb) := pt_op ob_lt (fun _ => op_lt) ha hb
theorem po_le (ha : PB K X a ta ga) (hb : PB K X b tb gb) : PO' K X (.Compare a [.LtE] [b] pos) (tOp (rI0 fun i j => V.bl (decide (i ≤ j))) ta tb) (e2 dLe ga gb) := pr_op ob_le (fun _ => op_le) ha hb
theorem pt_le (ha : PB K X a ta ga) (hb : PB K X b tb gb) : PTd K X (.Compare a [.LtE] [b] pos) (tTest (tOp (rI0 fun i j => V.bl (decide (i ≤ j))) ta tb)) (e2 dLe ga gb) := pt_op ob_le (fun _ => op_le) ha hb
theorem po_gt (ha : PB K X a ta ga) (hb : PB K X b tb gb) : PO' K X (.Compare a [.Gt] [b] pos) (tOp (rI0 fun i j => V.bl (decide (j < i))) ta tb) (e2 dGt ga gb) := pr_op ob_gt (fun _ => op_gt) ha hb
theorem pt_gt (ha : PB K X a ta ga) (hb : PB K X b tb gb) : PTd K X (.Compare a [.Gt] [b] pos) (tTest (tOp (rI0 fun i j => V.bl (decide (j < i))) ta tb)) (e2 dGt ga gb) := pt_op ob_gt (fun _ => op_gt) ha hb
theorem po_ge (ha : PB K X a ta ga) (hb : PB K X b tb gb) : PO' K X (.Compare a [.GtE] [b] pos) (tOp (rI0 fun i j => V.bl (decide (j ≤ i))) ta tb) (e2 dGe ga gb) := pr_op ob_ge (fun _ => op_ge) ha hb
theorem pt_ge (ha : PB K X a ta ga) (hb : PB K X b tb gb) : PTd K X (.Compare a [.GtE] [b] pos) (tTest (tOp (rI0 fun i j => V.bl (decide (j ≤ i))) ta tb)) (e2 dGe ga gb) := pt_op ob_ge (fun _ => op_ge) ha hb
theorem po_isN (ha : PB K X a ta ga) (hb : PB K X b tb gb) : PO' K X (.Compare a [.Is] [b] pos) (tOp (fun x y H Q => y = .non ∧ Q (.bl (decide (x = .non))) H) ta tb) (e2 dIsN ga gb) := pr_op ob_isN (fun _ => op_isN) ha hb
theorem pt_isN (ha : PB K X a ta ga) (hb : PB K X b tb gb) : PTd K X (.Compare a [.Is] [b] pos) (tTest (tOp (fun x y H Q => y = .non ∧ Q (.bl (decide (x = .non))) H) ta tb)) (e2 dIsN ga gb) := pt_op ob_isN (fun _ => op_isN) ha hb
theorem po_notN (ha : PB K X a ta ga) (hb : PB K X b tb gb) : PO' K X (.Compare a [.IsNot] [b] pos) (tOp (fun x y H Q => y = .non ∧ Q (.bl (!decide (x = .non))) H) ta tb) (e2 dNotN ga gb) := pr_op ob_notN (fun _ => op_notN) ha hb
theorem pt_notN (ha : PB K X a ta ga) (hb : PB K X b tb gb) : PTd K X (.Compare a [.IsNot] [b] pos) (tTest (tOp (fun x y H Q => y = .non ∧ Q (.bl (!decide (x = .non))) H) ta tb)) (e2 dNotN ga gb) := pt_op ob_notN (fun _ => op_notN) ha hb
theorem po_isB (ha : PB K X a ta ga) (hb : PB K X b tb gb) : PO' K X (.Compare a [.Is] [b] pos) (tOp rIsB ta tb) (e2 dIsB ga gb) := pr_op ob_isB (fun _ => op_isBl) ha hb
theorem pt_isB (ha : PB K X a ta ga) (hb : PB K X b tb gb) : PTd K X (.Compare a [.Is] [b] pos) (tTest (tOp rIsB ta tb)) (e2 dIsB ga gb) := pt_op ob_isB (fun _ => op_isBl) ha hb
theorem po_notB (ha : PB K X a ta ga) (hb : PB K X b tb gb) : PO' K X (.Compare a [.IsNot] [b] pos) (tOp rNotB ta tb) (e2 dNotB ga gb) := pr_op ob_notB (fun _ => op_notBl) ha hb
theorem pt_notB (ha : PB K X a ta ga) (hb : PB K X b tb gb) : PTd K X (.Compare a [.IsNot] [b] pos) (tTest (tOp rNotB ta tb)) (e2 dNotB ga gb) := pt_op ob_notB (fun _ => op_notBl) ha hb
theorem po_in (hu : X.A.units + 65 < cLine) (ha : PB K X a ta ga) (hb : PB K X b tb gb) (hm : behindInMarks .In b = false := by rfl) : PO' K X (.Compare a [.In] [b] pos) (tOp (rInA K) ta tb) (e2 dIn ga gb) := pr_op ob_in (fun q => by rw [← q]; exact op_inA hu) ha hb hm
theorem pt_in (hu : X.A.units + 65 < cLine) (ha : PB K X a ta ga) (hb : PB K X b tb gb) (hm : behindInMarks .In b = false := by rfl) : PTd K X (.Compare a [.In] [b] pos) (tTest (tOp (rInA K) ta tb)) (e2 dIn ga gb) := pt_op ob_in (fun q => by rw [← q]; exact op_inA hu) ha hb hm
theorem po_notIn (hu : X.A.units + 65 < cLine) (ha : PB K X a ta ga) (hb : PB K X b tb gb) (hm : behindInMarks .NotIn b = false := by rfl) : PO' K X (.Compare a [.NotIn] [b] pos) (tOp (rNotInA K) ta tb) (e2 dNotIn ga gb) := pr_op ob_notIn (fun q => by rw [← q]; exact op_notInA hu) ha hb hm
theorem pt_notIn (hu : X.A.units + 65 < cLine) (ha : PB K X a ta ga) (hb : PB K X b tb gb) (hm : behindInMarks .NotIn b = false := by rfl) : PTd K X (.Compare a [.NotIn] [b] pos) (tTest (tOp (rNotInA K) ta tb)) (e2 dNotIn ga gb) := pt_op ob_notIn (fun q => by rw [← q]; exact op_notInA hu) ha hb hm
theorem po_lele (ha : PB K X a ta ga) (hb : PB K X b tb gb) (hc : PB K X c tc gc) (hm : lastMarks [.LtE, .LtE] [b, c] = false := by with_unfolding_all rfl) : PO' K X (.Compare a [.LtE, .LtE] [b, c] pos) (tChain (rI0 fun i j => V.bl (decide (i ≤ j))) (rI0 fun i j => V.bl (decide (i ≤ j))) ta tb tc) (eChain dLe dLe ga gb gc) := pr_chain ob_le ob_le (fun _ => op_le) (fun _ => op_le) ha hb hc hm
theorem pt_lele (ha : PB K X a ta ga) (hb : PB K X b tb gb) (hc : PB K X c tc gc) (hm : lastMarks [.LtE, .LtE] [b, c] = false := by with_unfolding_all rfl) : PTd K X (.Compare a [.LtE, .LtE] [b, c] pos) (tTest (tChain (rI0 fun i j => V.bl (decide (i ≤ j))) (rI0 fun i j => V.bl (decide (i ≤ j))) ta tb tc)) (eChain dLe dLe ga gb gc) := pt_chainD ob_le ob_le (fun _ => op_le) (fun _ => op_le) ha hb hc hm
theorem po_lelt (ha : PB K X a ta ga) (hb : PB K X b tb gb) (hc : PB K X c tc gc) (hm : lastMarks [.LtE, .Lt] [b, c] = false := by with_unfolding_all rfl) : PO' K X (.Compare a [.LtE, .Lt] [b, c] pos) (tChain (rI0 fun i j => V.bl (decide (i ≤ j))) (rI0 fun i j => V.bl (decide (i < j))) ta tb tc) (eChain dLe dLt ga gb gc) := pr_chain ob_le ob_lt (fun _ => op_le) (fun _ => op_lt) ha hb hc hm
theorem pt_lelt (ha : PB K X a ta ga) (hb : PB K X b tb gb) (hc : PB K X c tc gc) (hm : lastMarks [.LtE, .Lt] [b, c] = false := by with_unfolding_all rfl) : PTd K X (.Compare a [.LtE, .Lt] [b, c] pos) (tTest (tChain (rI0 fun i j => V.bl (decide (i ≤ j))) (rI0 fun i j => V.bl (decide (i < j))) ta tb tc)) (eChain dLe dLt ga gb gc) := pt_chainD ob_le ob_lt (fun _ => op_le) (fun _ => op_lt) ha hb hc hm
theorem pd_len (hm : X.mg "len" = none) (ha : PB K X a ta ga) (hg : Gl X "len" := by rfl) (na : starEach [a] X.env = (false, eval a X.env) :: starEach [] X.env := by rfl) (hpl : (backTo pos (starEach [] X.env)).any (·.1) = false := by rfl) : PD K X (.Call (.Name "len" p) [a] [] pos) (tCB (fun xs H Q => ∃ x n, xs = [x] ∧ LenV K x H n ∧ Q (.int n) H) (tCons ta tNil)) (eCall cLen (eCons ga eNil)) := pd_callB cb_len (fun q => by have h := call_len (X := X); rw [q] at h; exact h) hg hm (by decide +kernel) (pab_cons ha pab_nil na) (by decide) (by decide) na hpl
theorem pd_all (hc : X.calm = true) (hm : X.mg "all" = none) (ha : PB K X a ta ga) (hg : Gl X "all" := by rfl) (na : starEach [a] X.env = (false, eval a X.env) :: starEach [] X.env := by rfl) (hpl : (backTo pos (starEach [] X.env)).any (·.1) = false := by rfl) : PD K X (.Call (.Name "all" p) [a] [] pos) (tCB (rAll K) (tCons ta tNil)) (eCall cAll (eCons ga eNil)) := pd_callB cb_all (fun q => by have h := cr_all (X := X) hc; rw [q] at h; exact h) hg hm (by decide +kernel) (pab_cons ha pab_nil na) (by decide) (by decide) na hpl
theorem pd_any (hc : X.calm = true) (hm : X.mg "any" = none) (ha : PB K X a ta ga) (hg : Gl X "any" := by rfl) (na : starEach [a] X.env = (false, eval a X.env) :: starEach [] X.env := by rfl) (hpl : (backTo pos (starEach [] X.env)).any (·.1) = false := by rfl) : PD K X (.Call (.Name "any" p) [a] [] pos) (tCB (rAny K) (tCons ta tNil)) (eCall cAny (eCons ga eNil)) := pd_callB cb_any (fun q => by have h := cr_any (X := X) hc; rw [q] at h; exact h) hg hm (by decide +kernel) (pab_cons ha pab_nil na) (by decide) (by decide) na hpl
theorem pd_sum (hc : X.calm = true) (hm : X.mg "sum" = none) (ha : PB K X a ta ga) (hg : Gl X "sum" := by rfl) (na : starEach [a] X.env = (false, eval a X.env) :: starEach [] X.env := by rfl) (hpl : (backTo pos (starEach [] X.env)).any (·.1) = false := by rfl) : PD K X (.Call (.Name "sum" p) [a] [] pos) (tCB (rSumA K) (tCons ta tNil)) (eCall cSum (eCons ga eNil)) := pd_callB cb_sum (fun q => by have h := cr_sumA (X := X) hc; rw [q] at h; exact h) hg hm (by decide +kernel) (pab_cons ha pab_nil na) (by decide) (by decide) na hpl
theorem pd_max (hc : X.calm = true) (hm : X.mg "max" = none) (ha : PB K X a ta ga) (hg : Gl X "max" := by rfl) (na : starEach [a] X.env = (false, eval a X.env) :: starEach [] X.env := by rfl) (hpl : (backTo pos (starEach [] X.env)).any (·.1) = false := by rfl) : PD K X (.Call (.Name "max" p) [a] [] pos) (tCB (rMax K) (tCons ta tNil)) (eCall cMax (eCons ga eNil)) := pd_callB cb_max (fun q => by have h := cr_max (X := X) hc; rw [q] at h; exact h) hg hm (by decide +kernel) (pab_cons ha pab_nil na) (by decide) (by decide) na hpl
theorem pd_min (hc : X.calm = true) (hm : X.mg "min" = none) (ha : PB K X a ta ga) (hg : Gl X "min" := by rfl) (na : starEach [a] X.env = (false, eval a X.env) :: starEach [] X.env := by rfl) (hpl : (backTo pos (starEach [] X.env)).any (·.1) = false := by rfl) : PD K X (.Call (.Name "min" p) [a] [] pos) (tCB (rMin K) (tCons ta tNil)) (eCall cMin (eCons ga eNil)) := pd_callB cb_min (fun q => by have h := cr_min (X := X) hc; rw [q] at h; exact h) hg hm (by decide +kernel) (pab_cons ha pab_nil na) (by decide) (by decide) na hpl
theorem pd_max2 (hc : X.calm = true) (hm : X.mg "max" = none) (ha : PB K X a ta ga) (hb : PB K X b tb gb) (hg : Gl X "max" := by rfl) (na : starEach [a, b] X.env = (false, eval a X.env) :: starEach [b] X.env := by rfl) (nb : starEach [b] X.env = (false, eval b X.env) :: starEach [] X.env := by rfl) (hpl : (backTo pos (starEach [b] X.env)).any (·.1) = false := by rfl) :
    PD K X (.Call (.Name "max" p) [a, b] [] pos) (tCB (fun xs H Q => ∃ i j, xs = [.int i, .int j] ∧ Q (.int (if j > i then j else i)) H) (tCons ta (tCons tb tNil))) (eCall cMax2 (eCons ga (eCons gb eNil))) := pd_callB cb_max2 (fun _ => call_max2 hc) hg hm (by decide +kernel) (pab_cons ha (pab_cons hb pab_nil nb) na) (by decide) (by decide) na hpl
theorem pd_tuple (hm : X.mg "tuple" = none) (ha : PD K X a ta ga) (hg : Gl X "tuple" := by rfl) (na : starEach [a] X.env = (false, eval a X.env) :: starEach [] X.env := by rfl) (hpl : (backTo pos (starEach [] X.env)).any (·.1) = false := by rfl) : PD K X (.Call (.Name "tuple" p) [a] [] pos) (tCB (rTupS K) (tCons ta tNil)) (eCall cTuple (eCons ga eNil)) := pd_callTyD cd_tuple (fun q => by have h := call_tupS (X := X); rw [q] at h; exact h) hg hm (by decide +kernel) (pad_cons ha pad_nil na) (by decide) (by decide) na hpl

end
/-! ### a list or a tuple that is walked -/
section
variable {K : PySem.W.Frag} {X : Cx} {tg l : Expr} {tl : TE} {g : DE → Option D}
def iSeq (K : PySem.W.Frag) (tl : TE) : TI := fun σ H R => tl σ H fun x H1 => ∃ a, x = .ref a ∧ ((∃ xs, SqL K H1 a xs) ∧ R (Itl K a) H1 ∨ (∃ xs, SqT K H1 a xs) ∧ R (Itt K a) H1)
theorem pi_seq (hl : PE X l tl) : PI X tg l (iSeq X.K tl) := by
  refine ⟨fun pins s σ H R I h => thn (hl.run pins s σ H _ I h) fun v s1 ⟨x, H1, I1, r1, q1⟩ => ?_⟩
  obtain ⟨a, rfl, q⟩ := q1
  cases r1
  have fresh : ∀ b ∈ [s1.heap.objs.size], FpOk X pins H1 b := fun b hb => by
    rw [List.mem_singleton.mp hb]
    exact I1.fpOk (Nat.le_refl _) I1.fresh
  rcases q with ⟨⟨xs, hq⟩, q⟩ | ⟨⟨xs, hq⟩, q⟩
  · obtain ⟨us, rv, p, hz⟩ := I1.list hq
    refine PySem.wpAny_pyIter_list p.isList ⟨_, [_], _, _, H1, rfl, I1.kept (t' := s1.toks) fun b o e => Heap.get?_push_of_some _ e, turn_list a _, ⟨_, Heap.get?_push_size _ rfl, rfl, rfl⟩, fresh, q⟩
  · obtain ⟨us, rv, ⟨o, ho, hc, n, hd⟩, hz⟩ := I1.tuple hq
    refine PySem.wpAny_pyIter_tuple ⟨o, ho, hc, n, hd⟩ ⟨_, [_], _, _, H1, rfl, I1.kept (t' := s1.toks) fun b o e => Heap.get?_push_of_some _ e, turn_tuple a _, ⟨_, Heap.get?_push_size _ rfl, rfl, rfl⟩, fresh, q⟩
theorem pid_seq (hl : PD K X l tl g) : PId K (Dp K) X tg l (iSeq K tl) (e1 asSeq g) := ⟨fun k => by
    have := pi_seq (tg := tg) (hl.pe k)
    rw [k] at this
    exact this, fun F0 H0 F ρ σ H ds r hg Q q => by
  obtain ⟨d, h1, h2⟩ := bindSome hg
  refine hl.ok F0 H0 F ρ σ H d r h1 _ fun v F' H' ex dp => ?_
  cases d <;> simp only [asSeq] at h2 <;> cases h2
  · cases dp with
    | lst sq al =>
      refine ⟨_, rfl, .inl ⟨⟨_, ex.i.seq sq⟩, q _ F' H' ex (yf_of_list sq al)⟩⟩
  · cases dp with
    | tup sq al => exact ⟨_, rfl, .inr ⟨⟨_, SqT.mono ex.i sq.t⟩, q _ F' H' ex (yf_of_tup sq.t al)⟩⟩⟩
where
  yf_of_list {F1 : Hp} {a : Addr} {vs : List V} {ds : List D} (sq : SqL K F1 a vs) (al : DpAll K F1 vs ds) : Yf (Dp K) (Itl K a) F1 ds := fun i F H s1 s2 => by
    have sq' : SqL K H a vs := (s1.trans s2).seq sq
    refine ⟨fun d hd => ?_, fun hd => ⟨vs, sq', ?_⟩⟩
    · obtain ⟨v, hv, dp⟩ := DpAll.get' al hd
      refine ⟨⟨vs, v, sq', hv⟩, fun x H'' y => ?_⟩
      obtain ⟨rfl, y⟩ := y
      have := y vs sq'
      rw [hv] at this
      cases this
      exact ⟨F, Ext.refl s2, Dp.mono s1 dp⟩
    · rw [DpAll.length al]; exact List.getElem?_eq_none_iff.mp hd
  yf_of_tup {F1 : Hp} {a : Addr} {vs : List V} {ds : List D} (sq : SqT K F1 a vs) (al : DpAll K F1 vs ds) : Yf (Dp K) (Itt K a) F1 ds := fun i F H s1 s2 => by
    have sq' : SqT K H a vs := SqT.mono (s1.trans s2) sq
    refine ⟨fun d hd => ?_, fun hd => ⟨vs, sq', ?_⟩⟩
    · obtain ⟨v, hv, dp⟩ := DpAll.get' al hd
      refine ⟨⟨vs, v, sq', hv⟩, fun x H'' y => ?_⟩
      obtain ⟨rfl, y⟩ := y
      have := y vs sq'
      rw [hv] at this
      cases this
      exact ⟨F, Ext.refl s2, Dp.mono s1 dp⟩
    · rw [DpAll.length al]; exact List.getElem?_eq_none_iff.mp hd
end
section
variable {K : PySem.W.Frag} {X : Cx} {pos p : Pos}
/-! ### defs that are known -/
/-- the def x keeps its promise, by calls of at most level k -/
def Known (P : Program) (w : World) (K : PySem.W.Frag) (mg : Str → Option Value) (base : Heap) (k : Nat) (x : Str) (m : List D → Option D) (n : Nat) : Prop :=
  ∃ fd ps, FnOk P w K mg base CX0 k (He.ga K x) fd ps (spD K m n) ∧ PySem.W.keepIn K (.ref (He.ga K x)) = true ∧ Binds K fd ps [] ∧ mg x = some (.ref (He.ga K x))
variable {e : Expr} {es : List Expr} {ta' : TA} {gas : DE → Option (List D)} {k n : Nat} {x : Str} {m : List D → Option D}
theorem pd_fn (G : Known X.prog X.w K X.mg X.base k x m n) (hr : Room k X.A) (ha : PAd K X (e :: es) ta' gas) (hn : ∀ ρ ds, gas ρ = some ds → ds.length = n) (hg : Gl X x := by rfl) (hdb : (x == ("__debug__" : Str)) = false := by decide)
    (he : starEach (e :: es) X.env = (false, eval e X.env) :: starEach es X.env := by rfl) (hpl : (backTo pos (starEach es X.env)).any (·.1) = false := by rfl) : PD K X (.Call (.Name x p) (e :: es) [] pos) (tCall (spD K m n) [] E0 ta') (eCall m gas) := by
  obtain ⟨fd, ps, F, kp, bd, hm⟩ := G
  refine ⟨fun q => ?_, sd_call hn ha.ok⟩
  subst q
  exact pe_call F hr hg hm kp bd .nil pass0 (ha.pa rfl) hdb he hpl
theorem pd_fn0 (G : Known X.prog X.w K X.mg X.base k x m 0) (hr : Room k X.A) (hg : Gl X x := by rfl) (hdb : (x == ("__debug__" : Str)) = false := by decide) : PD K X (.Call (.Name x p) [] [] pos) (tCall (spD K m 0) [] E0 tNil) (eCall m eNil) := by
  obtain ⟨fd, ps, F, kp, bd, hm⟩ := G
  refine ⟨fun q => ?_, sd_call eNil_len (pad_nil (X := X)).ok⟩
  subst q
  exact pe_call0 F hr hg hm kp bd .nil pass0 hdb
end
abbrev FnP (K : PySem.W.Frag) (x : Str) (st : Stmt) (f : Addr) (fd : FuncData) : Prop := FunD K x x (defArgs st) (defBody st) (defScope st) [] [] f fd
section
variable {P : Program} {w : World} {K : PySem.W.Frag} {mg : Str → Option Value} {base : Heap}
theorem fnok_mk {x : Str} {st : Stmt} {fd : FuncData} {N ps : List Str} {k : Nat} {g : DS} {m : List D → Option D} (F : FnP K x st (He.ga K x) fd) (S : FnScope N ps (defScope st)) (hp : ps.length ≤ N.length)
    (hb : ∀ (cdv : Value) (A : Around) (outer : List Env) (s : Shared) (H : Hp) (E : XK), Room k (A.deeper (PyProof.Rows.envOfC x (defScope st) s.heap.objs.size (He.ga K x) cdv)) →
      ∃ t, PSsd K (cxOf CX0 P w K mg base N x (defScope st) (He.ga K x) cdv A outer s H E).nox W0 (defBody st) t g) (hm : ∀ ds, m ds = runD N.length g ds) : FnOk P w K mg base CX0 (k + 1) (He.ga K x) fd ps (spD K m ps.length) := by
  refine FunD.ok F S (fun vs H Q E h => h.1) (fun cdv A outer s H vs Q E hr h => ?_)
  obtain ⟨hl, F1, ds, d, sm, al, hd, q⟩ := h
  obtain ⟨t, ht⟩ := hb cdv A outer s H E hr
  refine ⟨t, PSs.nox (ht.ps rfl), ht.ok F1 H F1 _ _ H _ (R.init sm al (by rw [hl]; exact hp)) ?_⟩
  rw [hm] at hd
  exact run_post hd q
where
  run_post {n : Nat} {g : DS} {ds : List D} {d : D} {F1 H : Hp} {Q : VK} (hd : runD n g ds = some d) (q : ∀ v F' H', Ext F1 H F' H' → Dp K F' v d → Q v H') : Post K W0 F1 H { nx := fun _ H' => Q .non H', rt := Q } (g (initD n ds)) := by
    unfold runD at hd
    revert hd
    cases g (initD n ds) with
    | nx ρ =>
      intro hd F2 σ2 H2 r2
      cases hd
      exact q .non F2 H2 r2.toExt .non
    | ret d' =>
      intro hd v F2 H2 ex dp
      cases hd
      exact q v F2 H2 ex dp
    | brk _ => exact fun hd => nomatch hd
    | cnt _ => exact fun hd => nomatch hd
    | err _ _ => exact fun hd => nomatch hd
    | bad => exact fun hd => nomatch hd
theorem known_mk {x : Str} {st : Stmt} {fd : FuncData} {N ps : List Str} {k n : Nat} {g : DS} {m : List D → Option D} (F : FnP K x st (He.ga K x) fd) (gm : mg x = some (.ref (He.ga K x))) (S : FnScope N ps (defScope st)) (hp : ps.length ≤ N.length) (hn : ps.length = n)
    (hbd : ∀ (kV doc pm : Value) (an : Option Addr) (cdv ct : Value) (us : List Value), us.length = ps.length → bindArgs (PySem.W.fnOf x x (defArgs st) (defBody st) (defScope st) .none kV doc pm an cdv ct) ⟨us, []⟩ = pure (ps.zip us))
    (hb : ∀ (cdv : Value) (A : Around) (outer : List Env) (s : Shared) (H : Hp) (E : XK), Room k (A.deeper (PyProof.Rows.envOfC x (defScope st) s.heap.objs.size (He.ga K x) cdv)) →
      ∃ t, PSsd K (cxOf CX0 P w K mg base N x (defScope st) (He.ga K x) cdv A outer s H E).nox W0 (defBody st) t g) (hm : ∀ ds, m ds = runD N.length g ds) : Known P w K mg base (k + 1) x m n := by
  subst hn
  exact ⟨fd, ps, fnok_mk F S hp hb hm, F.kp, FunD.bindsN F hbd, gm⟩
/-- the law's own promise, asked for True -/
theorem sp_law {H : Hp} {a : Addr} {ns : List Int} {m : List D → Option D} (hS : SqL K H a (ns.map V.int)) (hm : m [.list (ns.map PyData.int)] = some (.bool true)) : spD K m 1 [.ref a] H (fun v _ => v = .bl true) fun _ _ _ => False :=
  ⟨rfl, H, _, _, Same.refl H, .cons (.lst hS (DpAll.ofInts ns)) .nil, hm, fun v F' H' _ dp => by cases dp; rfl⟩
end
end DL

namespace DL
open PySem PySem.Spec L2
/-! ### more words -/
section
variable {K : PySem.W.Frag} {X : Cx} {a b : Expr} {ta tb : TE} {ga gb : DE → Option D} {pos p p2 pos2 : Pos}
/-- int(x), x an int -/
def cInt : List D → Option D
  | [.int i] => some (.int i)
  | _ => none
theorem cb_int : ClB K (fun xs H Q => (∃ i, xs = [.int i] ∧ Q (.int i) H) ∨ ∃ k, xs = [.bl k] ∧ Q (.int (if k then 1 else 0)) H) cInt := fun H vs ds z al hf Q q => by
  unfold cInt at hf
  split at hf
  · cases hf
    obtain ⟨v, rfl, h1⟩ := one_of al
    cases h1
    exact .inl ⟨_, rfl, q _ fun F => .int _⟩
  · cases hf
theorem pd_intI (hm : X.mg "int" = none) (ha : PB K X a ta ga) (hg : Gl X "int" := by rfl) (na : starEach [a] X.env = (false, eval a X.env) :: starEach [] X.env := by rfl) (hpl : (backTo pos (starEach [] X.env)).any (·.1) = false := by rfl) :
    PD K X (.Call (.Name "int" p) [a] [] pos) (tCB (fun xs H Q => (∃ i, xs = [.int i] ∧ Q (.int i) H) ∨ ∃ k, xs = [.bl k] ∧ Q (.int (if k then 1 else 0)) H) (tCons ta tNil)) (eCall cInt (eCons ga eNil)) :=
  pd_callTy cb_int (fun _ => call_int1) hg hm (by decide +kernel) (pab_cons ha pab_nil na) (by decide) (by decide) na hpl
/-- list(range(a, b)) -/
def rgN2 (g h : DE → Option D) : DE → Option (List D) := fun ρ => ((g ρ).bind asI).bind fun i => ((h ρ).bind asI).bind fun j => if 0 ≤ i ∧ i ≤ 16777216 ∧ 0 ≤ j ∧ j ≤ 16777216 then some (rangeL i (j - i).toNat) else none
theorem rgV_dp2 {F : Hp} {i j : Int} : DpAll K F (rgV i j) (rangeL i (j - i).toNat) := by
  have e : rgV i j = ((List.range (j - i).toNat).map fun (k : Nat) => i + (k : Int)).map V.int := by
    unfold rgV
    rw [List.map_map]
    rfl
  have e2 : rangeL i (j - i).toNat = ((List.range (j - i).toNat).map fun (k : Nat) => i + (k : Int)).map PyData.int := by
    unfold rangeL
    rw [List.map_map]
    rfl
  rw [e, e2]
  exact DpAll.ofInts _
theorem pn_listR2 (hc : X.calm = true) (hg : Gl X "list") (hm : X.mg "list" = none) (hg2 : Gl X "range") (hm2 : X.mg "range" = none) (ha : PD K X a ta ga) (hb : PD K X b tb gb) (na : starEach [a, b] X.env = (false, eval a X.env) :: starEach [b] X.env := by rfl)
    (nb : starEach [b] X.env = (false, eval b X.env) :: starEach [] X.env := by rfl) (hp : (backTo pos2 (starEach [b] X.env)).any (·.1) = false := by rfl)
    (nc : starEach [.Call (.Name "range" p2) [a, b] [] pos2] X.env = (false, eval (.Call (.Name "range" p2) [a, b] [] pos2) X.env) :: starEach [] X.env := by rfl) : PN K X (.Call (.Name "list" p) [.Call (.Name "range" p2) [a, b] [] pos2] [] pos) (tLstRg (tRg2 ta tb)) (rgN2 ga gb) :=
  ⟨fun k => pe_listRg hc hg hm (prg_2 hg2 hm2 (ha.pe k) (hb.pe k) na nb hp) nc, fun F0 H0 F ρ σ H ds rr hgd Q q => by
    obtain ⟨i, h1, h2⟩ := bindSome hgd
    obtain ⟨d, h3, h4⟩ := bindSome h1
    obtain ⟨j, h5, h6⟩ := bindSome h2
    obtain ⟨e, h7, h8⟩ := bindSome h5
    have := asI_some h4
    subst this
    have := asI_some h8
    subst this
    split at h6
    · rename_i hn
      cases h6
      refine ha.ok F0 H0 F ρ σ H _ rr h3 _ fun v F1 H1 x1 p1 => ?_
      refine hb.ok F0 H0 F1 ρ σ H1 _ (rr.ext x1) h7 _ fun u F2 H2 x2 p2 => ?_
      cases p1
      cases p2
      have x12 := x1.trans x2
      exact ⟨i, j, rfl, rfl, .of_le hn.1 hn.2.2.2 hn.2.1 hn.2.2.1, fun l hl => q _ _ _ _ (x12.trans (Ext.loose x2.i hl)) upd_same (x12.h.free hl) (x2.i.free hl) rgV_dp2⟩
    · cases h6⟩
end
/-! ### a def that stands under another name -/
section
variable {P : Program} {w : World} {K : PySem.W.Frag} {mg : Str → Option Value} {base : Heap}
theorem known_mkA {x y : Str} {st : Stmt} {fd : FuncData} {N ps : List Str} {k n : Nat} {g : DS} {m : List D → Option D} (F : FnP K x st (He.ga K y) fd) (gm : mg y = some (.ref (He.ga K y))) (S : FnScope N ps (defScope st)) (hp : ps.length ≤ N.length) (hn : ps.length = n)
    (hbd : ∀ (kV doc pm : Value) (an : Option Addr) (cdv ct : Value) (us : List Value), us.length = ps.length → bindArgs (PySem.W.fnOf x x (defArgs st) (defBody st) (defScope st) .none kV doc pm an cdv ct) ⟨us, []⟩ = pure (ps.zip us))
    (hb : ∀ (cdv : Value) (A : Around) (outer : List Env) (s : Shared) (H : Hp) (E : XK), Room k (A.deeper (PyProof.Rows.envOfC x (defScope st) s.heap.objs.size (He.ga K y) cdv)) →
      ∃ t, PSsd K (cxOf CX0 P w K mg base N x (defScope st) (He.ga K y) cdv A outer s H E).nox W0 (defBody st) t g) (hm : ∀ ds, m ds = runD N.length g ds) : Known P w K mg base (k + 1) y m n := by
  subst hn
  refine ⟨fd, ps, FunD.ok F S (fun vs H Q E h => h.1) (fun cdv A outer s H vs Q E hr h => ?_), F.kp, FunD.bindsN F hbd, gm⟩
  obtain ⟨hl, F1, ds, d, sm, al, hd, q⟩ := h
  obtain ⟨t, ht⟩ := hb cdv A outer s H E hr
  refine ⟨t, PSs.nox (ht.ps rfl), ht.ok F1 H F1 _ _ H _ (R.init sm al (by rw [hl]; exact hp)) ?_⟩
  rw [hm] at hd
  exact fnok_mk.run_post hd q
end
end DL

namespace DL
open PySem PySem.Spec L2
/-! ### what may raise -/
/-- how a call ends: a datum, an exception of the class named, nothing known -/
inductive XR where
  | ok (d : D) | err (c : Str) | bad
def runX (n : Nat) (g : DS) (ds : List D) : XR := match g (initD n ds) with
  | .ret d => .ok d
  | .nx _ => .ok .none
  | .err c _ => .err c
  | _ => .bad
/-- the wish about exceptions that W stands for -/
def wxOf (K : PySem.W.Frag) (W : WD) : WX := fun cls d σ H => d = none ∧ ∃ c, cls = .ref (He.ga K c) ∧ W c σ H
def XPost (K : PySem.W.Frag) (F H : Hp) (W : Str → Hp → Prop) (Q : VK) : XR → Prop
  | .ok d => ∀ v F' H', Ext F H F' H' → Dp K F' v d → Q v H'
  | .err c => ∀ F' H', Ext F H F' H' → W c H'
  | .bad => False
/-- the promise of a def that may raise -/
def spX (K : PySem.W.Frag) (m : List D → XR) (n : Nat) : Sp := fun vs H Q E => vs.length = n ∧ ∃ (F : Hp) (ds : List D), Same F H ∧ DpAll K F vs ds ∧ XPost K F H (fun c H' => E (.ref (He.ga K c)) none H') Q (m ds)
def KnownX (P : Program) (w : World) (K : PySem.W.Frag) (mg : Str → Option Value) (base : Heap) (k : Nat) (x : Str) (m : List D → XR) (n : Nat) : Prop :=
  ∃ fd ps, FnOk P w K mg base (L2.CX P w) k (He.ga K x) fd ps (spX K m n) ∧ PySem.W.keepIn K (.ref (He.ga K x)) = true ∧ Binds K fd ps [] ∧ mg x = some (.ref (He.ga K x))
theorem XPost.ext {K : PySem.W.Frag} {F H F1 H1 : Hp} {W : Str → Hp → Prop} {Q : VK} (e : Ext F H F1 H1) : ∀ {r : XR}, XPost K F H W Q r → XPost K F1 H1 W Q r
  | .ok _, h => fun v F' H' x p => h v F' H' (e.trans x) p
  | .err _, h => fun F' H' x => h F' H' (e.trans x)
  | .bad, h => h
/-- the wish of a def's body -/
abbrev WE' (K : PySem.W.Frag) (E : XK) : WD := fun c _ H => E (.ref (He.ga K c)) none H
section
variable {P : Program} {w : World} {K : PySem.W.Frag} {mg : Str → Option Value} {base : Heap}
theorem wxOf_E {E : XK} : ∀ c d (σ : L2.St) H, wxOf K (WE' K E) c d σ H → E c d H := fun c d σ H h => by
  obtain ⟨rfl, c', rfl, h⟩ := h
  exact h
theorem known_mkX {x y : Str} {st : Stmt} {fd : FuncData} {N ps : List Str} {k n : Nat} {g : DS} {m : List D → XR} (F : FnP K x st (He.ga K y) fd) (gm : mg y = some (.ref (He.ga K y))) (S : FnScope N ps (defScope st)) (hp : ps.length ≤ N.length) (hn : ps.length = n)
    (hbd : ∀ (kV doc pm : Value) (an : Option Addr) (cdv ct : Value) (us : List Value), us.length = ps.length → bindArgs (PySem.W.fnOf x x (defArgs st) (defBody st) (defScope st) .none kV doc pm an cdv ct) ⟨us, []⟩ = pure (ps.zip us))
    (hb : ∀ (cdv : Value) (A : Around) (outer : List Env) (s : Shared) (H : Hp) (E : XK), Room k (A.deeper (PyProof.Rows.envOfC x (defScope st) s.heap.objs.size (He.ga K y) cdv)) →
      ∃ t, PSsd K (cxOf (L2.CX P w) P w K mg base N x (defScope st) (He.ga K y) cdv A outer s H E) (WE' K E) (defBody st) t g) (hm : ∀ ds, m ds = runX N.length g ds) : KnownX P w K mg base (k + 1) y m n := by
  subst hn
  refine ⟨fd, ps, FunD.ok F S (fun vs H Q E h => h.1) (fun cdv A outer s H vs Q E hr h => ?_), F.kp, FunD.bindsN F hbd, gm⟩
  obtain ⟨hl, F1, ds, sm, al, q⟩ := h
  obtain ⟨t, ht⟩ := hb cdv A outer s H E hr
  refine ⟨t, ht.ps rfl, ht.ok F1 H F1 _ _ H _ (R.init sm al (by rw [hl]; exact hp)) ?_⟩
  rw [hm] at q
  unfold runX at q
  revert q
  cases g (initD N.length ds) with
  | nx ρ => exact fun q F2 σ2 H2 r2 => q .non F2 H2 r2.toExt .non
  | ret d' => exact fun q v F2 H2 ex dp => q v F2 H2 ex dp
  | err c ρ => exact fun q F2 σ2 H2 r2 => q F2 H2 r2.toExt
  | brk _ => exact fun q => q.elim
  | cnt _ => exact fun q => q.elim
  | bad => exact fun q => q.elim
end
section
variable {K : PySem.W.Frag} {X : Cx} {W : WD} {e a b : Expr} {es : List Expr} {pos p : Pos}
/-- an expression that may raise -/
def Sx (K : PySem.W.Frag) (W : WD) (t : TE) (g : DE → XR) : Prop := ∀ (F0 H0 F : Hp) (ρ : DE) (σ : L2.St) (H : Hp), R K F0 H0 F ρ σ H → ∀ Q : VK, XPost K F H (fun c H' => W c σ H') Q (g ρ) → t σ H Q
structure PX (K : PySem.W.Frag) (X : Cx) (W : WD) (e : Expr) (t : TE) (g : DE → XR) : Prop where
  pe : X.K = K → PE X e t
  ok : Sx K W t g
def xOf (g : DE → Option D) : DE → XR := fun ρ => match g ρ with
  | some d => .ok d
  | none => .bad
theorem PD.x {t : TE} {g : DE → Option D} (h : PD K X e t g) : PX K X W e t (xOf g) := ⟨h.pe, fun F0 H0 F ρ σ H r Q q => by
  unfold xOf at q
  cases hd : g ρ with
  | none => rw [hd] at q; exact q.elim
  | some d => rw [hd] at q; exact h.ok F0 H0 F ρ σ H d r hd Q q⟩
/-- the call of a def that may raise -/
def xCall (m : List D → XR) (ga : DE → Option (List D)) : DE → XR := fun ρ => match ga ρ with
  | some ds => m ds
  | none => .bad
variable {k n : Nat} {x : Str} {m : List D → XR} {ta : TA} {ga : DE → Option (List D)}
theorem px_fn (G : KnownX X.prog X.w X.K X.mg X.base k x m n) (hr : Room k X.A) (tk : Takes X (wxOf K W)) (ha : PAd K X (e :: es) ta ga) (hn : ∀ ρ ds, ga ρ = some ds → ds.length = n) (hg : Gl X x := by rfl) (hdb : (x == ("__debug__" : Str)) = false := by decide)
    (he : starEach (e :: es) X.env = (false, eval e X.env) :: starEach es X.env := by rfl) (hpl : (backTo pos (starEach es X.env)).any (·.1) = false := by rfl) :
    PX K X W (.Call (.Name x p) (e :: es) [] pos) (tCallS (spX K m n) (WE (wxOf K W)) ta) (xCall m ga) := by
  obtain ⟨fd, ps, F, kp, bd, hm⟩ := G
  refine ⟨fun q => ?_, fun F0 H0 F ρ σ H r Q q => ?_⟩
  · subst q
    exact pe_callS F hr hg hm kp bd (passAt tk) (ha.pa rfl) hdb he hpl
  · unfold xCall at q
    cases hd : ga ρ with
    | none => rw [hd] at q; exact q.elim
    | some ds =>
      rw [hd] at q
      refine ha.ok F0 H0 F ρ σ H ds r hd _ fun vs F1 H1 x1 p1 => ⟨by rw [DpAll.length p1, hn ρ ds hd], F1, ds, x1.i, p1, ?_⟩
      have q2 : XPost K F1 H1 (fun c H' => W c σ H') Q (m ds) := XPost.ext x1 q
      revert q2
      generalize m ds = y
      intro q2
      cases y with
      | ok d => exact q2
      | err c => exact fun F' H' ex => ⟨rfl, c, rfl, q2 F' H' ex⟩
      | bad => exact q2
def xIf (c : DE → Option Bool) (g h : DE → XR) : DE → XR := fun ρ => match c ρ with
  | some true => g ρ
  | some false => h ρ
  | none => .bad
theorem px_if {c : Expr} {tc : TT} {t tb : TE} {gc : DE → Option Bool} {gx gy : DE → XR} (hc : PTd K X c tc gc) (ha : PX K X W a t gx) (hb : PX K X W b tb gy) : PX K X W (.IfExp c a b pos) (tIf tc t tb) (xIf gc gx gy) := ⟨fun k => pe_ifExp (hc.pt k) (ha.pe k) (hb.pe k), fun F0 H0 F ρ σ H r Q q => by
  unfold xIf at q
  cases hd : gc ρ with
  | none => rw [hd] at q; exact q.elim
  | some v =>
    rw [hd] at q
    refine hc.ok F0 H0 F ρ σ H v r hd _ fun F1 H1 x1 => ?_
    cases v with
    | true => rw [if_pos rfl]; exact ha.ok F0 H0 F1 ρ σ H1 (r.ext x1) Q (XPost.ext x1 q)
    | false => rw [if_neg Bool.false_ne_true]; exact hb.ok F0 H0 F1 ρ σ H1 (r.ext x1) Q (XPost.ext x1 q)⟩

/-! ### statements -/
def sExprX (g : DE → XR) : DS := fun ρ => match g ρ with
  | .ok _ => .nx ρ
  | .err c => .err c ρ
  | .bad => .bad
def sRetX (g : DE → XR) : DS := fun ρ => match g ρ with
  | .ok d => .ret d
  | .err c => .err c ρ
  | .bad => .bad
def sSetX (i : Nat) (g : DE → XR) : DS := fun ρ => match g ρ with
  | .ok d => .nx (ρ.set i (.dat d))
  | .err c => .err c ρ
  | .bad => .bad
variable {t : TE} {g : DE → XR}
theorem psd_exprX (he : PX K X W e t g) (hs : swapsWith e none pos.line X.env = pure false := by rfl) : PSd K X W (.Expr e pos) (tDrop t) (sExprX g) := ⟨fun k => ps_expr (he.pe k) hs, fun F0 H0 F ρ σ H E r p => by
  refine he.ok F0 H0 F ρ σ H r _ ?_
  unfold sExprX at p
  revert p
  cases g ρ with
  | ok d => exact fun p v F' H' ex _ => p F' σ H' (r.ext ex)
  | err c => exact fun p F' H' ex => p F' σ H' (r.ext ex)
  | bad => exact id⟩
theorem psd_retX (he : PX K X W e t g) : PSd K X W (.Return (some e) pos) (tRet t) (sRetX g) := ⟨fun k => ps_ret (he.pe k), fun F0 H0 F ρ σ H E r p => by
  refine he.ok F0 H0 F ρ σ H r _ ?_
  unfold sRetX at p
  revert p
  cases g ρ with
  | ok d => exact fun p v F' H' ex dp => p v F' H' (r.ext ex).toExt dp
  | err c => exact fun p F' H' ex => p F' σ H' (r.ext ex)
  | bad => exact id⟩
theorem psd_setX {i : Nat} {x : Str} {pos' : Pos} (hN : X.N.Nodup) (he : PX K X W e t g) (hi : X.N[i]? = some x := by rfl) (hx : Loc X.env.scope x := by first | exact Or.inl rfl | exact Or.inr rfl) (hs : swapsWith e (some (.Name x pos')) pos.line X.env = pure false := by rfl)
    (hf : X.fn x = true ∨ X.env.scope.names.lookup x = some .local := by first | exact .inl rfl | exact .inr rfl | assumption) : PSd K X W (.Assign [.Name x pos'] e pos) (tAsg t (gName i)) (sSetX i g) :=
  ⟨fun k => ps_set hN hi hx (he.pe k) hs hf, fun F0 H0 F ρ σ H E r p => by
    refine he.ok F0 H0 F ρ σ H r _ ?_
    unfold sSetX at p
    revert p
    cases g ρ with
    | ok d => exact fun p v F' H' ex dp => p F' _ H' ((r.ext ex).setD dp)
    | err c => exact fun p F' H' ex => p F' σ H' (r.ext ex)
    | bad => exact id⟩
/-- raise X('..'), X an own class -/
structure ExcK (K : PySem.W.Frag) (c : Str) : Prop where
  i : PySem.W.excIn K (He.ga K c) He.veBase "ValueError.__new__" = true
  kp : PySem.W.keepIn K (.ref (He.ga K c)) = true
  sb : PySem.W.subIn K (.ref (He.ga K c)) (.type "BaseException") = some true
  ty : PySem.W.typeIn K (.ref (He.ga K c)) = some (.type "type")
def sRaise (c : Str) : DS := fun ρ => .err c ρ
theorem psd_raise {c m : Str} {j : Nat} {p p2 pos2 : Pos} (hc : X.calm = true) (tk : Takes X (wxOf K W)) (q : ExcK K c) (gC : X.mg c = some (.ref (He.ga K c))) (hg : Gl X c := by rfl) (hdb : (c == ("__debug__" : Str)) = false := by decide) :
    PSd K X W (.Raise (some (.Call (.Name c p) [.Constant (.str m) j p2] [] pos)) none pos2) (fun _ σ H => wxOf K W (.ref (He.ga K c)) none σ H) (sRaise c) :=
  ⟨fun k => by
    subst k
    exact ps_raise hc tk (pmk_own PySem.F.excBase_ValueError q.i gC q.kp (raises_own q.sb q.ty) hg hdb), fun F0 H0 F ρ σ H E r p => ⟨rfl, c, rfl, p F σ H r⟩⟩
end

/-! ### try: .. except X as e: a suite that hands back -/
def wdOf (K : PySem.W.Frag) (W : WX) : WD := fun c σ H => W (.ref (He.ga K c)) none σ H
theorem wdOf_takes {K : PySem.W.Frag} {X : Cx} {W : WX} (t : Takes X W) : Takes X (wxOf K (wdOf K W)) := t.imp fun c d σ H h => by
  obtain ⟨rfl, c', rfl, h⟩ := h
  exact h
/-- b, and behind an exception of a class c of cs: h c hands back; slot i is the exception's -/
def sTry (b : DS) (i : Nat) (cs : List Str) (h : Str → DS) : DS := fun ρ => match b ρ with
  | .err c ρ' => if c ∈ cs ∧ i < ρ'.length then (match h c ρ' with
    | .ret d => .ret d
    | _ => .bad) else .bad
  | r => r
theorem pss_guard {X : Cx} {st : List Stmt} {φ : Str → Prop} {t : Str → TS} (h : ∀ c, φ c → PSs X st (t c)) : PSs X st (fun D σ H => ∃ c, φ c ∧ t c D σ H) :=
  ⟨fun pins s σ H D I z => by
    obtain ⟨c, hc, z⟩ := z
    exact (h c hc).run pins s σ H D I z⟩
/-- not looking at slot i, where the exception stands -/
def Bl {α : Type} (i : Nat) (a : Addr) (g g' : DE → Option α) : Prop := ∀ ρ : DE, i < ρ.length → g (ρ.set i (.raw (.ref a))) = g' ρ
def soMap (f : DE → DE) : SO → SO
  | .nx ρ => .nx (f ρ)
  | .brk ρ => .brk (f ρ)
  | .cnt ρ => .cnt (f ρ)
  | .err c ρ => .err c (f ρ)
  | .ret d => .ret d
  | .bad => .bad
def Bs (i : Nat) (a : Addr) (g g' : DS) : Prop := ∀ ρ : DE, i < ρ.length → g (ρ.set i (.raw (.ref a))) = soMap (fun ρ => ρ.set i (.raw (.ref a))) (g' ρ)
def SO.keeps (n : Nat) : SO → Prop
  | .nx ρ => ρ.length = n
  | _ => True
section
variable {i j : Nat} {a : Addr}
theorem bl_C {d : D} : Bl i a (eC d) (eC d) := fun _ _ => rfl
theorem bl_var (h : i ≠ j) : Bl i a (eVar j) (eVar j) := fun ρ _ => by unfold eVar; rw [List.getElem?_set_ne h]
theorem bl_own (h : i ≠ j) : Bl i a (eOwn j) (eOwn j) := fun ρ _ => by unfold eOwn; rw [List.getElem?_set_ne h]
theorem bl_ofB {g g' : DE → Option Bool} (h : Bl i a g g') : Bl i a (eOfB g) (eOfB g') := fun ρ hl => by unfold eOfB; rw [h ρ hl]
theorem bl_ofL {g g' : DE → Option (List D)} (h : Bl i a g g') : Bl i a (eOfL g) (eOfL g') := fun ρ hl => by unfold eOfL; rw [h ρ hl]
theorem bl_toL {g g' : DE → Option D} (h : Bl i a g g') : Bl i a (eToL g) (eToL g') := fun ρ hl => by unfold eToL; rw [h ρ hl]
theorem bl_toB {g g' : DE → Option D} (h : Bl i a g g') : Bl i a (eToB g) (eToB g') := fun ρ hl => by unfold eToB; rw [h ρ hl]
theorem bl_lst {g g' : DE → Option (List D)} (h : Bl i a g g') : Bl i a (eLst g) (eLst g') := fun ρ hl => by unfold eLst; rw [h ρ hl]
theorem bl_tup {g g' : DE → Option (List D)} (h : Bl i a g g') : Bl i a (eTup g) (eTup g') := fun ρ hl => by unfold eTup; rw [h ρ hl]
theorem bl_nil : Bl i a eNil eNil := fun _ _ => rfl
theorem bl_cons {g g' : DE → Option D} {k k' : DE → Option (List D)} (h : Bl i a g g') (h2 : Bl i a k k') : Bl i a (eCons g k) (eCons g' k') := fun ρ hl => by unfold eCons; rw [h ρ hl, h2 ρ hl]
theorem bl_e2 {α : Type} {f : D → D → Option α} {g g' k k' : DE → Option D} (h : Bl i a g g') (h2 : Bl i a k k') : Bl i a (e2 f g k) (e2 f g' k') := fun ρ hl => by unfold e2; rw [h ρ hl, h2 ρ hl]
theorem bl_e1 {α : Type} {f : D → Option α} {g g' : DE → Option D} (h : Bl i a g g') : Bl i a (e1 f g) (e1 f g') := fun ρ hl => by unfold e1; rw [h ρ hl]
theorem bl_l2 {f : List D → List D → Option (List D)} {g g' k k' : DE → Option (List D)} (h : Bl i a g g') (h2 : Bl i a k k') : Bl i a (l2 f g k) (l2 f g' k') := fun ρ hl => by unfold l2; rw [h ρ hl, h2 ρ hl]
theorem bl_if {α : Type} {c c' : DE → Option Bool} {g g' k k' : DE → Option α} (hc : Bl i a c c') (h : Bl i a g g') (h2 : Bl i a k k') : Bl i a (eIf c g k) (eIf c' g' k') := fun ρ hl => by unfold eIf; rw [h ρ hl, h2 ρ hl, hc ρ hl]
theorem bs_ret {g g' : DE → Option D} (h : Bl i a g g') : Bs i a (sRet g) (sRet g') := fun ρ hl => by
  unfold sRet
  rw [h ρ hl]
  cases g' ρ <;> rfl
theorem bs_setSeq {g g' : DE → Option D} {s s' : DS} (hij : i ≠ j) (h : Bl i a g g') (hs : Bs i a s s') : Bs i a (sSeq (sSet j g) s) (sSeq (sSet j g') s') := fun ρ hl => by
  unfold sSeq sSet
  rw [h ρ hl]
  cases g' ρ with
  | none => rfl
  | some d =>
    dsimp only
    rw [List.set_comm _ _ hij]
    exact hs _ (by rw [List.length_set]; exact hl)
end
section
variable {K : PySem.W.Frag} {X : Cx} {W : WD}
theorem any_takes {X : Cx} {W : WX} (hs : X.stack = X.env :: X.outer) (hf : X.env.frame = some X.env.locals) : ∃ xe, Takes (X.tr [] xe) W ∧ PassesOwn (model X.prog X.w) X.A X.env xe := by
  refine ⟨fun e s₁ => wpAny (model X.prog X.w) X.A (noteFrame e X.env) (fun _ s₂ => wpAny (model X.prog X.w) X.A (setFlight e none) (fun _ _ => True) (fun _ _ => False) s₂) (fun _ _ => False) s₁, fun u s' x => ?_, PassesOwn.looking⟩
  obtain ⟨a, B, sI, pins, σ, H, cls, d, rfl, I, nb, up, sky, _⟩ := x
  have sky' : Sky B (X.env :: X.outer) a (Zc cls d) X.env.locals s'.heap := by rw [← hs]; exact sky
  exact Sky.land Zc.steady (by have := I.ok.frames; rw [show (X.tr [] _).stack = X.stack from rfl, hs] at this; exact this) hf sky' fun _ _ _ => trivial
theorem psd_try {i : Nat} {x n : Str} {cs : List Str} {body suite : List Stmt} {b₀ : Stmt} {np pos pos' : Pos} {tb : WX → TS} {ts : Str → Addr → TS} {b : DS} {hp : Str → Addr → DS} {h : Str → DS} {ca : Addr}
    (hs : X.stack = X.env :: X.outer) (hf : X.env.frame = some X.env.locals) (hN : X.N.Nodup) (hi : X.N[i]? = some n) (hln : X.env.kindOf n = some .local) (hc : Names X x (.ref ca)) (hex : ∀ c ∈ cs, PySem.W.exmOne X.K (.ref (He.ga K c)) (.ref ca) = some true)
    (hb : ∀ (W : WX) (pn : List (Addr × Obj)) (xe : Value → Shared → Prop), Takes (X.tr pn xe) (wxOf K (wdOf K W)) → PassesOwn (model X.prog X.w) X.A X.env xe → PSsd K (X.tr pn xe) (wdOf K W) body (tb W) b)
    (hsu : ∀ c, c ∈ cs → ∀ (a : Addr) (oe : Obj) (pn : List (Addr × Obj)), Zc (.ref (He.ga K c)) none oe → (∃ vs, oe.data = .fields vs) → PSsd K (X.suite a ((a, oe) :: pn)) W0 (b₀ :: suite) (ts c a) (hp c a))
    (hpar : ∀ c a, Bs i a (hp c a) (h c)) :
    PSd K X W (.Try body [.ExceptHandler (some (.Name x np)) (some n) (b₀ :: suite) pos'] [] [] pos)
      (fun D σ H => tb (wAs X.K (.ref ca) i (fun a cls d D σ H => ∃ c, (cls = .ref (He.ga K c) ∧ d = none ∧ c ∈ cs) ∧ ts c a D σ H) (fun _ _ _ _ => False) D) D σ H) (sTry b i cs h) :=
  ⟨fun k => by
    subst k
    refine ps_try_as hs hf hN hi hln hc takes0 (fun W pn xe tk po => (hb W pn xe (wdOf_takes tk) po).ps rfl) fun a oe cls d pn hz hfl => ?_
    exact pss_guard fun c hcc => by
      obtain ⟨rfl, rfl, hm⟩ := hcc
      exact (hsu c hm a oe pn hz hfl).ps rfl, fun F0 H0 F ρ σ H E r p => by
    obtain ⟨xe, tk, po⟩ := any_takes (X := X) (W := wAs X.K (.ref ca) i (fun a cls d D σ H => ∃ c, (cls = .ref (He.ga K c) ∧ d = none ∧ c ∈ cs) ∧ ts c a D σ H) (fun _ _ _ _ => False) E) hs hf
    refine (hb _ [] xe (wdOf_takes tk) po).ok F0 H0 F ρ σ H E r ?_
    unfold sTry at p
    revert p
    cases b ρ with
    | nx ρ' => exact id
    | ret d => exact id
    | brk ρ' => exact id
    | cnt ρ' => exact id
    | bad => exact id
    | err c ρ' =>
      intro p F' σ' H' r'
      dsimp only at p
      by_cases hcm : c ∈ cs ∧ i < ρ'.length
      · rw [if_pos hcm] at p
        refine ⟨true, ?_, fun _ a ha => ⟨c, ⟨rfl, rfl, hcm.1⟩, ?_⟩, fun z => nomatch z⟩
        · exact hex c hcm.1
        refine (hsu c hcm.1 a ⟨.ref (He.ga K c), none, .fields #[], #[]⟩ [] ⟨rfl, rfl⟩ ⟨_, rfl⟩).ok F0 H0 F' _ _ H' _ r'.setR ?_
        rw [hpar c a ρ' hcm.2]
        revert p
        cases h c ρ' with
        | ret d => exact fun p => p
        | _ => exact fun p => p.elim
      · rw [if_neg hcm] at p
        exact p.elim⟩

/-! ### isinstance of the exception that the suite holds -/
def isX (c C : Str) : Bool := c == C
def eExc (i : Nat) (a : Addr) (b : Bool) : DE → Option Bool := fun ρ => match ρ[i]? with
  | some (.raw (.ref a')) => if a' = a then some b else none
  | _ => none
def eKb (b : Bool) : DE → Option Bool := fun _ => some b
theorem eExc_set {i : Nat} {a : Addr} {b : Bool} {ρ : DE} (h : i < ρ.length) : eExc i a b (ρ.set i (.raw (.ref a))) = eKb b ρ := by
  unfold eExc eKb
  rw [List.getElem?_set_self h]
  simp only [if_pos]
theorem bl_exc {i : Nat} {a : Addr} {b : Bool} : Bl i a (eExc i a b) (eKb b) := fun ρ hl => eExc_set hl
theorem eExc_get {i : Nat} {a : Addr} {b : Bool} {ρ : DE} (h : ρ[i]? = some (.raw (.ref a))) : eExc i a b ρ = some b := by
  unfold eExc
  rw [h]
  simp only [if_pos]
theorem po_isE {i : Nat} {a : Addr} {oe : Obj} {pn : List (Addr × Obj)} {c C n : Str} {bb : Bool} {p np cp pos : Pos} (ec : ExcC X.K (He.ga K c)) (hz : Zc (.ref (He.ga K c)) none oe) (hf : ∃ vs, oe.data = .fields vs) (hkit : PySem.W.kitOne X.K (.ref (He.ga K c)) (.ref (He.ga K C)) = some bb)
    (gC : X.mg C = some (.ref (He.ga K C))) (hm : X.mg "isinstance" = none) (hN : X.N[i]? = some n := by rfl) (hv : Vis X.env.scope n := by first | exact Or.inl rfl | exact Or.inr (Or.inl rfl) | exact Or.inr (Or.inr rfl))
    (hg : Gl X "isinstance" := by rfl) (hgC : Gl X C := by rfl) (hdC : (C == ("__debug__" : Str)) = false := by decide) (hd : (n == ("__debug__" : Str)) = false := by decide) (hcd : (n == ("__classdict__" : Str)) = false := by decide)
    (na : starEach [.Name n np, .Name C cp] X.env = (false, eval (.Name n np) X.env) :: starEach [.Name C cp] X.env := by rfl) (nb : starEach [.Name C cp] X.env = (false, eval (.Name C cp) X.env) :: starEach [] X.env := by rfl) (hpl : (backTo pos (starEach [.Name C cp] X.env)).any (·.1) = false := by rfl) :
    PO' K (X.suite a ((a, oe) :: pn)) (.Call (.Name "isinstance" p) [.Name n np, .Name C cp] [] pos) (tCB (rIsE X.K (He.ga K c) a) (tCons (tVar i) (tCons (tC (.ref (He.ga K C))) tNil))) (eExc i a bb) :=
  ⟨fun k => pe_callB (X := X.suite a ((a, oe) :: pn)) (call_isE ec hz hf) hg hm (by decide +kernel) (pa_cons (pe_var (X := X.suite a ((a, oe) :: pn)) hN hv hd hcd) (pa_cons (pe_glob (X := X.suite a ((a, oe) :: pn)) hgC gC (show RelV (.ref (He.ga K C)) _ from rfl) hdC) pa_nil nb) na) (by decide) (by decide) na hpl, fun F0 H0 F ρ σ H b r hgd Q q => by
    unfold eExc at hgd
    cases e1 : ρ[i]? with
    | none => rw [e1] at hgd; cases hgd
    | some y =>
      rw [e1] at hgd
      cases y with
      | raw v =>
        cases v with
        | ref a' =>
          dsimp only at hgd
          by_cases ha : a' = a
          · rw [if_pos ha] at hgd
            cases hgd
            subst ha
            obtain ⟨o, e2, q2⟩ := r.get e1
            have q3 : o = some (V.ref a') := q2
            subst q3
            refine ⟨.ref a', e2, _, _, bb, rfl, fun u ru => ru, hkit, q F H (Ext.refl r.f)⟩
          · rw [if_neg ha] at hgd
            cases hgd
        | _ => cases hgd
      | _ => cases hgd⟩
end

/-! ### [f, g, ..][i](..) -/
def tNames (K : PySem.W.Frag) : List Str → TA
  | [] => tNil
  | x :: r => tCons (tC (.ref (He.ga K x))) (tNames K r)
section
variable {K : PySem.W.Frag} {X : Cx} {W : WD} {e ei : Expr} {es nes : List Expr} {pos : Pos}
theorem tNames_run {σ : L2.St} {H : Hp} : ∀ {xs : List Str} {Q : List V → Hp → Prop}, Q (xs.map fun x => V.ref (He.ga K x)) H → tNames K xs σ H Q
  | [], _, h => h
  | x :: r, Q, h => tNames_run (xs := r) (Q := fun vs H' => Q (V.ref (He.ga K x) :: vs) H') h
theorem pan_nil : X.K = K → PA X [] (tNames K []) := fun _ => pa_nil
theorem pan_cons {x : Str} {xs : List Str} {np : Pos} (hm : X.mg x = some (.ref (He.ga K x))) (hr : X.K = K → PA X nes (tNames K xs)) (hg : Gl X x := by rfl) (hd : (x == ("__debug__" : Str)) = false := by decide)
    (hs : starEach (.Name x np :: nes) X.env = (false, eval (.Name x np) X.env) :: starEach nes X.env := by rfl) : X.K = K → PA X (.Name x np :: nes) (tNames K (x :: xs)) := fun k => pa_cons (pe_glob hg hm (show RelV (.ref (He.ga K x)) _ from rfl) hd) (hr k) hs
/-- the names of defs that may raise, and what they do -/
inductive KnL (X : Cx) (K : PySem.W.Frag) (n : Nat) : List Str → List (List D → XR) → Prop
  | nil : KnL X K n [] []
  | cons {k : Nat} {x : Str} {m : List D → XR} {xs : List Str} {ms : List (List D → XR)} : KnownX X.prog X.w K X.mg X.base k x m n → Room k X.A → KnL X K n xs ms → KnL X K n (x :: xs) (m :: ms)
theorem KnL.len {n : Nat} {xs : List Str} {ms : List (List D → XR)} (h : KnL X K n xs ms) : xs.length = ms.length := by
  induction h with
  | nil => rfl
  | cons _ _ _ ih => rw [List.length_cons, List.length_cons, ih]
theorem KnL.get {n : Nat} {xs : List Str} {ms : List (List D → XR)} (h : KnL X K n xs ms) : ∀ {j : Nat} {m : List D → XR}, ms[j]? = some m → ∃ x k, xs[j]? = some x ∧ KnownX X.prog X.w K X.mg X.base k x m n ∧ Room k X.A := by
  induction h with
  | nil => intro j m e; simp at e
  | cons G hr _ ih =>
    intro j m e
    cases j with
    | zero => cases e; exact ⟨_, _, rfl, G, hr⟩
    | succ j => exact ih (by simpa using e)
def tCallV (K : PySem.W.Frag) (W : WD) (n : Nat) (xs : List Str) (ms : List (List D → XR)) (tf : TE) (t : TA) : TE := fun σ H Q => tf σ H fun y H1 => ∃ (j : Nat) (x : Str) (m : List D → XR), xs[j]? = some x ∧ ms[j]? = some m ∧ y = .ref (He.ga K x) ∧ t σ H1 fun vs H2 => spX K m n vs H2 Q (WE (wxOf K W) σ)
def xCallL (ms : List (List D → XR)) (gi : DE → Option D) (ga : DE → Option (List D)) : DE → XR := fun ρ => match ((gi ρ).bind asI).bind fun i => atI ms i with
  | some m => (match ga ρ with
    | some ds => m ds
    | none => .bad)
  | none => .bad
theorem px_callL {xs : List Str} {ms : List (List D → XR)} {n : Nat} {lp sp : Pos} {ti : TE} {gi : DE → Option D} {ta : TA} {ga : DE → Option (List D)} (tk : Takes X (wxOf K W)) (KL : KnL X K n xs ms) (hn : X.K = K → PA X nes (tNames K xs)) (hl : xs.length ≤ 16) (hi : PD K X ei ti gi)
    (ha : PAd K X (e :: es) ta ga) (hlen : ∀ ρ ds, ga ρ = some ds → ds.length = n) (hs : PlainIx ei := by exact fun _ _ => rfl)
    (ht : eval (.Call (.Subscript (.List nes lp) ei sp) (e :: es) [] pos) X.env = (do callWith pos (← eval (.Subscript (.List nes lp) ei sp) X.env) [] (backTo pos (starEach (e :: es) X.env)) (backToKw pos (keywordEach [] X.env))) := by rfl)
    (he : starEach (e :: es) X.env = (false, eval e X.env) :: starEach es X.env := by rfl) (hpl : (backTo pos (starEach es X.env)).any (·.1) = false := by rfl) :
    PX K X W (.Call (.Subscript (.List nes lp) ei sp) (e :: es) [] pos) (tCallV K W n xs ms (tOp (rIxL K) (tLst (tNames K xs)) ti) ta) (xCallL ms gi ga) :=
  ⟨fun k => by
    subst k
    refine ⟨fun pins s σ H Q I h => ?_⟩
    refine PyProof.Rows.Call_ (thn ((pe_ix ix_list (pe_lst (hn rfl)) (hi.pe rfl) hs).run pins s σ H _ I h) fun u s1 ⟨y, H1, I1, ry, j, x, m, hx, hm', ey, q⟩ => ?_) ht
    obtain ⟨x', k, hx', ⟨fd, ps, F, kp, bd, hm⟩, hr⟩ := KL.get hm'
    rw [hx] at hx'
    cases hx'
    subst ey
    obtain rfl : u = Value.ref (He.ga X.K x) := ry
    refine PySem.W.callWith_K (h₀ := X.base) I.ok.mod.kin kp (thn (ha.pa rfl |>.run pos pins s1 σ H1 _ I1 q) fun us s2 ⟨vs, H2, I2, r, q2⟩ => ⟨I2.kIn, ?_⟩) he hpl
    exact run_fnS (E := WE (wxOf X.K W)) F hr bd (passAt tk σ) I2 r q2, fun F0 H0 F ρ σ H r Q q => by
    unfold xCallL at q
    cases hd : ((gi ρ).bind asI).bind fun i => atI ms i with
    | none => rw [hd] at q; exact q.elim
    | some m =>
      rw [hd] at q
      cases hg : ga ρ with
      | none => rw [hg] at q; exact q.elim
      | some ds =>
        rw [hg] at q
        obtain ⟨i, h1, h2⟩ := bindSome hd
        obtain ⟨d, h3, h4⟩ := bindSome h1
        have := asI_some h4
        subst this
        obtain ⟨j, h5, h6⟩ := bindSome h2
        obtain ⟨x, k, h7, G, hr⟩ := KL.get h6
        unfold tCallV tOp tLst
        refine tNames_run ⟨by rw [List.length_map, sizeLine_eq]; omega, fun l hl => ?_⟩
        have x1 : Ext F H F (upd H l (.lst (xs.map fun x => V.ref (He.ga K x)))) := Ext.loose r.f hl
        refine hi.ok F0 H0 F ρ σ _ _ (r.ext x1) h3 _ fun u F2 H2 x2 p2 => ?_
        cases p2
        refine ⟨l, _, i, .ref (He.ga K x), rfl, rfl, SqL.of (x2.h _ _ upd_same), ?_, j, x, m, h7, h6, rfl, ?_⟩
        · unfold atI
          rw [List.length_map, KL.len, h5]
          simp [h7]
        have x12 := x1.trans x2
        refine ha.ok F0 H0 F2 ρ σ H2 ds (r.ext x12) hg _ fun vs F3 H3 x3 p3 => ⟨by rw [DpAll.length p3, hlen ρ ds hg], F3, ds, x3.i, p3, ?_⟩
        have q2 : XPost K F3 H3 (fun c H' => W c σ H') Q (m ds) := XPost.ext (x12.trans x3) q
        revert q2
        generalize m ds = y
        intro q2
        cases y with
        | ok d => exact q2
        | err c => exact fun F' H' ex => ⟨rfl, c, rfl, q2 F' H' ex⟩
        | bad => exact q2⟩
end

/-! ### the contexts of defs that may raise -/
section
variable {P : Program} {w : World} {K : PySem.W.Frag} {mg : Str → Option Value} {base : Heap} {N : List Str} {qual : Str} {scope : Scope} {f : Addr} {cd : Value} {A : Around} {outer : List Env} {s : Shared} {H : Hp} {E : XK}
theorem tkX : Takes (cxOf (L2.CX P w) P w K mg base N qual scope f cd A outer s H E) (wxOf K (WE' K E)) := (takes_of rfl rfl rfl rfl).imp wxOf_E
theorem poX : PassesOwn (model (cxOf (L2.CX P w) P w K mg base N qual scope f cd A outer s H E).prog (cxOf (L2.CX P w) P w K mg base N qual scope f cd A outer s H E).w) (cxOf (L2.CX P w) P w K mg base N qual scope f cd A outer s H E).A (cxOf (L2.CX P w) P w K mg base N qual scope f cd A outer s H E).env (cxOf (L2.CX P w) P w K mg base N qual scope f cd A outer s H E).xe := passes_of rfl
end
/-! ### what is looked up of the classes -/
def excCB (K : PySem.W.Frag) (D : Addr) : Bool := He.eqO (PySem.W.findIn K (.ref D) "__getattribute__") (some (some (.builtin "BaseException.__getattribute__"))) && (He.eqO (PySem.W.findIn K (.ref D) "__getattr__") (some none) && (decide (PySem.W.subIn K (.ref D) (.type "BaseException") = some true) &&
  (PySem.W.hasDictIn K D && (He.eqO (PySem.W.findIn K (.ref D) "__class__") (some (some (.builtin "object.__class__"))) && (He.eqO (PySem.W.specialIn K (.builtin "object.__class__") "__get__") (some (some (.builtin "getset_descriptor.__get__"))) &&
  (decide (PySem.W.takesIn K (.builtin "object.__class__") = some true) && decide (PySem.W.mroIn K D (.type "object") = some true)))))))
theorem excCB_ok {K : PySem.W.Frag} {D : Addr} (h : excCB K D = true) : ExcC K D := by
  obtain ⟨h1, h⟩ := He.ba h
  obtain ⟨h2, h⟩ := He.ba h
  obtain ⟨h3, h⟩ := He.ba h
  obtain ⟨h4, h⟩ := He.ba h
  obtain ⟨h5, h⟩ := He.ba h
  obtain ⟨h6, h⟩ := He.ba h
  obtain ⟨h7, h8⟩ := He.ba h
  exact ⟨He.eqO_ok h1, He.eqO_ok h2, of_decide_eq_true h3, h4, He.eqO_ok h5, He.eqO_ok h6, of_decide_eq_true h7, of_decide_eq_true h8⟩
def exB (cs Cs : List Str) (b : Str) (K : PySem.W.Frag) : Bool := cs.all fun c => excCB K (He.ga K c) && (decide (PySem.W.exmOne K (.ref (He.ga K c)) (.ref (He.ga K b)) = some true) && Cs.all fun C => decide (PySem.W.kitOne K (.ref (He.ga K c)) (.ref (He.ga K C)) = some (isX c C)))
structure ExB (K : PySem.W.Frag) (cs Cs : List Str) (b : Str) : Prop where
  xs : ∀ c ∈ cs, ExcC K (He.ga K c)
  xm : ∀ c ∈ cs, PySem.W.exmOne K (.ref (He.ga K c)) (.ref (He.ga K b)) = some true
  xk : ∀ c ∈ cs, ∀ C ∈ Cs, PySem.W.kitOne K (.ref (He.ga K c)) (.ref (He.ga K C)) = some (isX c C)
theorem exB_ok {K : PySem.W.Frag} {cs Cs : List Str} {b : Str} (h : exB cs Cs b K = true) : ExB K cs Cs b := by
  have key : ∀ c ∈ cs, ExcC K (He.ga K c) ∧ PySem.W.exmOne K (.ref (He.ga K c)) (.ref (He.ga K b)) = some true ∧ ∀ C ∈ Cs, PySem.W.kitOne K (.ref (He.ga K c)) (.ref (He.ga K C)) = some (isX c C) := fun c hc => by
    obtain ⟨h1, h2⟩ := He.ba (List.all_eq_true.mp h c hc)
    obtain ⟨h3, h4⟩ := He.ba h2
    exact ⟨excCB_ok h1, of_decide_eq_true h3, fun C hC => of_decide_eq_true (List.all_eq_true.mp h4 C hC)⟩
  exact ⟨fun c hc => (key c hc).1, fun c hc => (key c hc).2.1, fun c hc => (key c hc).2.2⟩
theorem excK_of {K : PySem.W.Frag} {x : Str} (c : (He.Fa.exc x).ok K = true) : ExcK K x := by
  obtain ⟨h1, h2, h3, h4⟩ := He.exc_ok c
  exact ⟨h1, h2, h3, h4⟩
/-- the facts by names, and one more Bool -/
def hookB (n : Nat) (fa : List He.Fa) (fn : List He.DefD) (ex : PySem.W.Frag → Bool) : PySem.W.Hook where
  α := He.AlD × Bool
  obs := fun s => (He.obsDG n fa fn s.heap.get?, ex (He.frG s.heap.get? (He.asD s.heap.get? n)))
  val := fun _ => (He.valD fn, true)
  says := fun _ h => ∃ K : PySem.W.Frag, K.In h ∧ He.SaysD fa fn K ∧ ex K = true
  of := fun _ _ e => ⟨_, He.frG_in, congrArg (fun z : He.AlD × Bool => z.1) e, congrArg (fun z : He.AlD × Bool => z.2) e⟩
  keeps := fun _ _ _ ⟨K, hK, c⟩ k => ⟨K, PySem.W.Frag.In.keeps hK k, c⟩
def obsBG (n : Nat) (fa : List He.Fa) (fn : List He.DefD) (ex : PySem.W.Frag → Bool) (g : Addr → Option Obj) : He.AlD × Bool := (He.obsDG n fa fn g, ex (He.frG g (He.asD g n)))
theorem obsBG_eq {n : Nat} {fa : List He.Fa} {fn : List He.DefD} {ex : PySem.W.Frag → Bool} {g : Addr → Option Obj} {s : Shared} (h : ∀ a, g a = s.heap.get? a) : obsBG n fa fn ex g = (hookB n fa fn ex).obs s := by
  have e : g = s.heap.get? := funext h
  rw [e] <;> rfl
end DL

/-! dicts whose keys are tuples of ints -/
namespace DL
open PySem PySem.Spec PyProof.Rows L2
abbrev tk (P : Program) (w : World) : HeapKind P w (List Int) := tupleKind (intKind P w)
theorem ent_eq {P : Program} {w : World} (x : List Int × Addr × Value) : entT x = entryOfKey (tk P w) x := rfl
/-- the tuples of the keys stand in F -/
def KeysT (F : Hp) (xs : List (List Int × Addr × Value)) : Prop := ∀ x ∈ xs, KeyT F x.2.1 x.1
theorem DctAll.keys {K : PySem.W.Frag} {F : Hp} {kvs : List (List Int × D)} {xs : List (List Int × Addr × Value)} (h : DctAll K F kvs xs) : KeysT F xs := by
  induction h with
  | nil => exact fun x hx => by cases hx
  | cons a _ _ _ ih =>
    intro x hx
    rcases List.mem_cons.mp hx with rfl | hx
    · exact a
    · exact ih x hx
theorem DctAll.len {K : PySem.W.Frag} {F : Hp} {kvs : List (List Int × D)} {xs : List (List Int × Addr × Value)} (h : DctAll K F kvs xs) : kvs.length = xs.length := by
  induction h with
  | nil => rfl
  | cons _ _ _ _ ih => rw [List.length_cons, List.length_cons, ih]
theorem DctAll.get {K : PySem.W.Frag} {F : Hp} {kvs : List (List Int × D)} {xs : List (List Int × Addr × Value)} (h : DctAll K F kvs xs) : ∀ {j : Nat} {y : List Int × D}, kvs[j]? = some y → ∃ z, xs[j]? = some z ∧ z.1 = y.1 ∧ KeyT F z.2.1 z.1 := by
  induction h with
  | nil => intro j y hy; simp at hy
  | cons a _ _ _ ih =>
    intro j y hy
    cases j with
    | zero => cases hy; exact ⟨_, rfl, rfl, a⟩
    | succ j => exact ih (by simpa using hy)
/-- the datum at a key -/
def dAt (kvs : List (List Int × D)) (k : List Int) : Option D := (kvs.find? fun x => decide (x.1 = k)).map (·.2)
def dHas (kvs : List (List Int × D)) (k : List Int) : Bool := (dAt kvs k).isSome
theorem DctAll.at_ {K : PySem.W.Frag} {F : Hp} {kvs : List (List Int × D)} {xs : List (List Int × Addr × Value)} (h : DctAll K F kvs xs) (k : List Int) :
    (dAt kvs k = none ∧ atKey xs k = none) ∨ ∃ d p v, dAt kvs k = some d ∧ atKey xs k = some p ∧ RelV v p.2 ∧ Dp K F v d := by
  induction h with
  | nil => exact .inl ⟨rfl, rfl⟩
  | @cons k' d q v u kvs xs a b c _ ih =>
    by_cases e : k' = k
    · subst e
      refine .inr ⟨d, (q, u), v, ?_, ?_, b, c⟩
      · unfold dAt; simp [List.find?_cons]
      · unfold atKey; simp [List.find?_cons]
    · have e1 : dAt ((k', d) :: kvs) k = dAt kvs k := by unfold dAt; simp [List.find?_cons, e]
      have e2 : atKey ((k', q, u) :: xs) k = atKey xs k := by unfold atKey; simp [List.find?_cons, e]
      rw [e1, e2]
      exact ih
theorem DctAll.snoc {K : PySem.W.Frag} {F : Hp} {kvs : List (List Int × D)} {xs : List (List Int × Addr × Value)} (h : DctAll K F kvs xs) {k : List Int} {q : Addr} {v : V} {u : Value} {d : D} (a : KeyT F q k) (b : RelV v u) (c : Dp K F v d) : DctAll K F (kvs ++ [(k, d)]) (xs ++ [(k, q, u)]) := by
  induction h with
  | nil => exact .cons a b c .nil
  | cons a' b' c' _ ih => exact .cons a' b' c' ih
/-- keys as data -/
def keyD (k : List Int) : D := .tuple (k.map PyData.int)
def asKey : D → Option (List Int)
  | .tuple ds => asIs ds
  | _ => none
theorem asKey_key {F : Hp} {K : PySem.W.Frag} {v : V} {d : D} {k : List Int} (h : asKey d = some k) (dp : Dp K F v d) : ∃ b, v = .ref b ∧ KeyT F b k := by
  cases d <;> simp only [asKey] at h <;> try cases h
  cases dp with
  | tup sq al =>
    have := asIs_some h
    subst this
    have := DpAll.ints al
    subst this
    exact ⟨_, rfl, sq⟩
section
variable {X : Cx} {pins : List (Addr × Obj)} {σ : L2.St} {H : Hp} {s : Shared} {a b : Addr} {x : DX} {F : Hp}
theorem ints_are {P : Program} {w : World} : ∀ {ks : List Int} {us : List Value}, Vals (ks.map V.int) us → ItemsAre (intKind P w) ks us
  | [], _, r => by rw [List.map_nil] at r; cases r; exact .nil
  | k :: ks, _, r => by
    rw [List.map_cons] at r
    cases r with
    | cons h t =>
      obtain ⟨tk, e⟩ := (show ∃ t, _ = Value.int k t from h)
      subst e
      exact .cons (by simp [intKind, Value.isInt]) (ints_are t)
/-- a fixed tuple of ints is a key -/
theorem key_ok (I : Inv X pins σ H s) (sm : Same F H) {k : List Int} (h : KeyT F b k) : (tk X.prog X.w).is s.heap k b := by
  obtain ⟨its, r, p, _⟩ := I.tuple (TupS.t (TupS.mono sm h))
  obtain ⟨o2, h1, h2, n, h3⟩ := p
  exact ⟨o2, its.toArray, n, h1, h2, h3, by simpa using ints_are r⟩
theorem dct_ok (I : Inv X pins σ H s) (e : H a = some (dctO a x)) (sm : Same F H) (ks : KeysT F x.1) : x.1.length ≤ sizeLine ∧ (a == sysModules) = false ∧ s.heap.DictOfH (tk X.prog X.w) a x.1 := by
  obtain ⟨⟨h1, h2, o, es, h3, h4, h5, h6, h7⟩, _⟩ := (show ObjOk X.prog X.w H s.heap a (.ext (dctAt a x)) from I.hok a _ e)
  exact ⟨h1, h2, o, es, x.2, h3, h4, h5, h6, fun y hy => key_ok I sm (ks y hy), h7⟩
theorem dct_new {P : Program} {w : World} {H' : Hp} {h' : Heap} {xs : List (List Int × Addr × Value)} (z : xs.length ≤ sizeLine) (hd : (a == sysModules) = false) (dd : h'.DictOfH (tk P w) a xs) : ∃ ep, ObjOk P w H' h' a (dctO a (xs, ep)) := by
  obtain ⟨o, es, ep, h3, h4, h5, h6, _, h7⟩ := dd
  exact ⟨ep, ⟨z, hd, o, es, h3, h4, h5, h6, h7⟩, ⟨o, h3⟩, fun h1 h2 ⟨z, hd, o, es, h3, r⟩ k => ⟨z, hd, o, es, k o h3, r⟩⟩
end

/-! ### in, not in, d[k] -/
def rDctNI : R2 := fun y z H Q => ∃ a b x k F, y = .ref b ∧ z = .ref a ∧ H a = some (dctO a x) ∧ Same F H ∧ KeysT F x.1 ∧ KeyT F b k ∧ Q (.bl (!(atKey x.1 k).isSome)) H
def rDctIn : R2 := fun y z H Q => ∃ a b x k F, y = .ref b ∧ z = .ref a ∧ H a = some (dctO a x) ∧ Same F H ∧ KeysT F x.1 ∧ KeyT F b k ∧ Q (.bl (atKey x.1 k).isSome) H
theorem op_dctNI {X : Cx} (hu : X.A.units + 1 < cLine) : OpR X (compareOp .NotIn) rDctNI := by
  intro pins s σ H y z v u Q I ry rz h
  obtain ⟨a, b, x, k, F, rfl, rfl, e, sm, ks, kb, q⟩ := h
  cases (show v = Value.ref b from ry)
  cases (show u = Value.ref a from rz)
  obtain ⟨h1, h2, h3⟩ := dct_ok I e sm ks
  refine wpAny_notIn_heap (tupleKind_room_in1 hu) (key_ok I sm kb) h2 h3 ⟨.bl _, H, I.tok _, rfl, q⟩
theorem op_dctIn {X : Cx} (hu : X.A.units + 1 < cLine) : OpR X (compareOp .In) rDctIn := by
  intro pins s σ H y z v u Q I ry rz h
  obtain ⟨a, b, x, k, F, rfl, rfl, e, sm, ks, kb, q⟩ := h
  cases (show v = Value.ref b from ry)
  cases (show u = Value.ref a from rz)
  obtain ⟨h1, h2, h3⟩ := dct_ok I e sm ks
  refine wpAny_in_heap (tupleKind_room_in1 hu) (key_ok I sm kb) h2 h3 ⟨.bl _, H, I.tok _, rfl, q⟩
def tDctGet (td ty : TE) : TE := fun σ H Q => td σ H fun z H1 => ty σ H1 fun y H2 => ∃ a b x k F p v, z = .ref a ∧ y = .ref b ∧ H2 a = some (dctO a x) ∧ Same F H2 ∧ KeysT F x.1 ∧ KeyT F b k ∧ atKey x.1 k = some p ∧ RelV v p.2 ∧ Q v H2
section
variable {K : PySem.W.Frag} {X : Cx} {W : WD} {o e : Expr} {td ty te tv : TE} {pos pos' p : Pos}
theorem pe_dctget (hu : X.A.units + 1 < cLine) (ho : PE X o td) (hi : PE X e ty) (hs : NoSl e) : PE X (.Subscript o e pos) (tDctGet td ty) := by
  refine ⟨fun pins s σ H Q I h => ?_⟩
  refine subD_of PySem.F.slot_dict_getitem.lookup hs (thn (ho.run pins s σ H _ I h) fun u s1 ⟨z, H1, I1, rx, q1⟩ => thn (hi.run pins s1 σ H1 _ I1 q1) fun iv s2 ⟨y, H2, I2, ry, a, b, x, k, F, pp, v, ez, ey, e, sm, ks, kb, ea, rv, q2⟩ => ?_)
  subst ez ey
  obtain rfl : u = Value.ref a := rx
  obtain rfl : iv = Value.ref b := ry
  obtain ⟨h1, h2, h3⟩ := dct_ok I2 e sm ks
  exact ⟨h3.typeIs, wpAny_getItem_heap (tupleKind_room_in1 hu) (key_ok I2 sm kb) h3 ea ⟨v, H2, I2.tok _, rv, q2⟩⟩
def eDHas (i : Nat) (g : DE → Option D) : DE → Option Bool := fun ρ => match ρ[i]? with
  | some (.dct kvs) => ((g ρ).bind asKey).bind fun k => some (dHas kvs k)
  | _ => none
def eDGet (i : Nat) (g : DE → Option D) : DE → Option D := fun ρ => match ρ[i]? with
  | some (.dct kvs) => ((g ρ).bind asKey).bind fun k => dAt kvs k
  | _ => none
theorem dct_get {ρ : DE} {i : Nat} {α : Type} {f : List (List Int × D) → Option α} {z : α} (h : (match ρ[i]? with | some (.dct kvs) => f kvs | _ => none) = some z) : ∃ kvs, ρ[i]? = some (.dct kvs) ∧ f kvs = some z := by
  cases e : ρ[i]? with
  | none => rw [e] at h; cases h
  | some x =>
    rw [e] at h
    cases x with
    | dct kvs => exact ⟨kvs, rfl, h⟩
    | _ => cases h
variable {g ge : DE → Option D}
theorem has_eq {F : Hp} {kvs : List (List Int × D)} {xs : List (List Int × Addr × Value)} (al : DctAll K F kvs xs) (k : List Int) : (atKey xs k).isSome = dHas kvs k := by
  unfold dHas
  rcases al.at_ k with ⟨h1, h2⟩ | ⟨d, p, v, h1, h2, _⟩ <;> rw [h1, h2] <;> rfl
theorem so_dctNI (i : Nat) (he : Sd K te ge) : So K (tOp rDctNI te (tVar i)) (eNot (eDHas i ge)) := fun F0 H0 F ρ σ H b r hg Q q => by
  obtain ⟨c, h1, h2⟩ := bindSome hg
  cases h2
  obtain ⟨kvs, h3, h4⟩ := dct_get h1
  obtain ⟨k, h5, h6⟩ := bindSome h4
  obtain ⟨d, h7, h8⟩ := bindSome h5
  cases h6
  refine he F0 H0 F ρ σ H d r h7 _ fun v F1 H1 x1 dp => ?_
  obtain ⟨b, rfl, kb⟩ := asKey_key h8 dp
  obtain ⟨o, e2, a, x, rfl, ha, al, fn, hz⟩ := (r.ext x1).get h3
  refine ⟨_, e2, a, b, x, k, F1, rfl, rfl, ha, x1.i, al.keys, kb, ?_⟩
  rw [has_eq al]
  exact q F1 H1 x1
theorem po_dnotin (i : Nat) {x : Str} (hu : X.A.units + 1 < cLine) (he : PD K X e te ge) (hN : X.N[i]? = some x := by rfl) (hv : Vis X.env.scope x := by first | exact Or.inl rfl | exact Or.inr (Or.inl rfl) | exact Or.inr (Or.inr rfl)) (hd : (x == ("__debug__" : Str)) = false := by decide)
    (hcd : (x == ("__classdict__" : Str)) = false := by decide) (hm : behindInMarks .NotIn (.Name x p) = false := by rfl) : PO' K X (.Compare e [.NotIn] [.Name x p] pos) (tOp rDctNI te (tVar i)) (eNot (eDHas i ge)) :=
  ⟨fun k => pe_cmpR (op_dctNI hu) (he.pe k) (pe_var hN hv hd hcd) hm, so_dctNI i he.ok⟩
theorem pt_dnotin (i : Nat) {x : Str} (hu : X.A.units + 1 < cLine) (he : PD K X e te ge) (hN : X.N[i]? = some x := by rfl) (hv : Vis X.env.scope x := by first | exact Or.inl rfl | exact Or.inr (Or.inl rfl) | exact Or.inr (Or.inr rfl)) (hd : (x == ("__debug__" : Str)) = false := by decide)
    (hcd : (x == ("__classdict__" : Str)) = false := by decide) (hm : behindInMarks .NotIn (.Name x p) = false := by rfl) : PTd K X (.Compare e [.NotIn] [.Name x p] pos) (tTest (tOp rDctNI te (tVar i))) (eNot (eDHas i ge)) :=
  ⟨fun k => pt_cmpR (op_dctNI hu) (he.pe k) (pe_var hN hv hd hcd) hm, fun F0 H0 F ρ σ H b r hg Q q => so_dctNI i he.ok F0 H0 F ρ σ H b r hg _ fun F' H' ex => ⟨b, rfl, q F' H' ex⟩⟩
theorem pd_dget (i : Nat) {x : Str} (hu : X.A.units + 1 < cLine) (he : PD K X e te ge) (hs : NoSl e := by exact fun _ _ => rfl) (hN : X.N[i]? = some x := by rfl) (hv : Vis X.env.scope x := by first | exact Or.inl rfl | exact Or.inr (Or.inl rfl) | exact Or.inr (Or.inr rfl)) (hd : (x == ("__debug__" : Str)) = false := by decide)
    (hcd : (x == ("__classdict__" : Str)) = false := by decide) : PD K X (.Subscript (.Name x p) e pos) (tDctGet (tVar i) te) (eDGet i ge) :=
  ⟨fun k => pe_dctget hu (pe_var hN hv hd hcd) (he.pe k) hs, fun F0 H0 F ρ σ H d r hg Q q => by
    obtain ⟨kvs, h3, h4⟩ := dct_get hg
    obtain ⟨k, h5, h6⟩ := bindSome h4
    obtain ⟨d2, h7, h8⟩ := bindSome h5
    obtain ⟨o, e0, a0, x0, rfl, ha0, al0, fn0, hz0⟩ := r.get h3
    refine ⟨_, e0, ?_⟩
    refine he.ok F0 H0 F ρ σ H d2 r h7 _ fun v F1 H1 x1 dp => ?_
    obtain ⟨b, rfl, kb⟩ := asKey_key h8 dp
    have al1 := DctAll.mono x1.f al0
    rcases al1.at_ k with ⟨g1, g2⟩ | ⟨d3, pp, v3, g1, g2, g3, g4⟩
    · rw [g1] at h6; cases h6
    · rw [g1] at h6
      cases h6
      exact ⟨a0, b, x0, k, F1, pp, v3, rfl, rfl, x1.h _ _ ha0, x1.i, al1.keys, kb, g2, g3, q v3 F1 H1 x1 g4⟩⟩
/-! ### d[k] = v, k new -/
def sDctPut (td ty tv : TE) : TS := fun D σ H => tv σ H fun v H1 => td σ H1 fun z H2 => ty σ H2 fun y H3 => ∃ a b x k F, z = .ref a ∧ y = .ref b ∧ H3 a = some (dctO a x) ∧ Same F H3 ∧ KeysT F x.1 ∧ KeyT F b k ∧ atKey x.1 k = none ∧ x.1.length < sizeLine ∧
  ∀ u ep, RelV v u → D.nx σ (upd H3 a (dctO a (x.1 ++ [(k, b, u)], ep)))
theorem ps_dctput (hu : X.A.units + 1 < cLine) (ho : PE X o td) (hi : PE X e ty) {value : Expr} (hv : PE X value tv) (hs : swapsWith value (some (.Subscript o e pos')) pos.line X.env = pure false) : PS X (.Assign [.Subscript o e pos'] value pos) (sDctPut td ty tv) := by
  refine ⟨fun pins s σ H D I h => ?_⟩
  refine wpAny_Assign_Subscript (thn (hv.run pins s σ H _ I h) fun r s1 ⟨v, H1, I1, rv, q1⟩ => thn (ho.run pins s1 σ H1 _ I1 q1) fun u s2 ⟨z, H2, I2, rx, q2⟩ => thn (hi.run pins s2 σ H2 _ I2 q2) fun iv s3 ⟨y, H3, I3, ry, a, b, x, k, F, ez, ey, e, sm, ks, kb, ea, hl, q3⟩ => ?_) hs
  subst ez ey
  obtain rfl : u = Value.ref a := rx
  obtain rfl : iv = Value.ref b := ry
  obtain ⟨h1, h2, h3⟩ := dct_ok I3 e sm ks
  refine wpAny_setItem_heap (hsz := h1) (tupleKind_room_in1 hu) (key_ok I3 sm kb) h3 fun h' dd' hsb => ?_
  rw [storedH_new ea] at dd'
  have hl' : (x.1 ++ [(k, b, r)]).length ≤ sizeLine := by rw [List.length_append]; show x.1.length + 1 ≤ sizeLine; omega
  obtain ⟨ep, new⟩ := dct_new (a := a) (P := X.prog) (w := X.w) (H' := upd H3 a (dctO a (x.1 ++ [(k, b, r)], 0))) hl' h2 dd'
  have he : ∃ q, h'.get? a = some q := let ⟨q, _, _, hq, _⟩ := dd'; ⟨q, hq⟩
  exact ⟨σ, _, d_write I3 (by rw [e]; exact True.intro) hsb he new, q3 r ep rv⟩
def sDPutN (i : Nat) (gk gv : DE → Option D) : DS := fun ρ => match gv ρ with
  | some d => (match ρ[i]? with
    | some (.dct kvs) => (match (gk ρ).bind asKey with
      | some k => if dHas kvs k = false ∧ kvs.length < 16777216 then .nx (ρ.set i (.dct (kvs ++ [(k, d)]))) else .bad
      | none => .bad)
    | _ => .bad)
  | none => .bad
theorem psd_dput (i : Nat) {x : Str} {value : Expr} {gv : DE → Option D} (hu : X.A.units + 1 < cLine) (hval : PD K X value tv gv) (he : PD K X e te ge) (hN : X.N[i]? = some x := by rfl) (hv : Vis X.env.scope x := by first | exact Or.inl rfl | exact Or.inr (Or.inl rfl) | exact Or.inr (Or.inr rfl)) (hd : (x == ("__debug__" : Str)) = false := by decide)
    (hcd : (x == ("__classdict__" : Str)) = false := by decide) (hs : swapsWith value (some (.Subscript (.Name x p) e pos')) pos.line X.env = pure false := by rfl) : PSd K X W (.Assign [.Subscript (.Name x p) e pos'] value pos) (sDctPut (tVar i) te tv) (sDPutN i ge gv) :=
  ⟨fun k => ps_dctput hu (pe_var hN hv hd hcd) (he.pe k) (hval.pe k) hs, fun F0 H0 F ρ σ H E r pp => by
    unfold sDPutN at pp
    cases h1 : gv ρ with
    | none => rw [h1] at pp; exact pp.elim
    | some d =>
      rw [h1] at pp
      dsimp only at pp
      cases h2 : ρ[i]? with
      | none => rw [h2] at pp; exact pp.elim
      | some z =>
        rw [h2] at pp
        cases z with
        | dct kvs =>
          dsimp only at pp
          cases h3 : (ge ρ).bind asKey with
          | none => rw [h3] at pp; exact pp.elim
          | some k =>
            rw [h3] at pp
            dsimp only at pp
            by_cases hk : dHas kvs k = false ∧ kvs.length < 16777216
            · rw [if_pos hk] at pp
              obtain ⟨d2, h7, h8⟩ := bindSome h3
              refine hval.ok F0 H0 F ρ σ H d r h1 _ fun v F1 H1 x1 dpv => ?_
              have r1 := r.ext x1
              obtain ⟨o, e0, a0, x0, rfl, ha0, al0, fn0, hz0⟩ := r1.get h2
              refine ⟨_, e0, ?_⟩
              refine he.ok F0 H0 F1 ρ σ H1 d2 r1 h7 _ fun y F2 H2 x2 dp => ?_
              obtain ⟨b, rfl, kb⟩ := asKey_key h8 dp
              have r2 := r1.ext x2
              have al2 := DctAll.mono x2.f al0
              have hn : atKey x0.1 k = none := by
                have := has_eq al2 k
                rw [hk.1] at this
                cases hq : atKey x0.1 k with
                | none => rfl
                | some _ => rw [hq] at this; cases this
              have hfn : F2 a0 = none := x2.n _ fn0 (by rw [ha0]; exact fun z => nomatch z)
              refine ⟨a0, b, x0, k, F2, rfl, rfl, x2.h _ _ ha0, x2.i, al2.keys, kb, hn, by rw [← al2.len, sizeLine_eq]; omega, fun u ep ru => ?_⟩
              refine pp F2 σ _ (r2.putM h2 rfl e0 rfl ⟨a0, _, rfl, upd_same, al2.snoc kb ru (Dp.mono x2.f dpv), hfn, hz0⟩)
            · rw [if_neg hk] at pp
              exact pp.elim
        | _ => exact pp.elim⟩
end

/-! ### {k: v} -/
def tDctNew (tk tv : TE) : TE := fun σ H Q => ∀ p, H p = none → tk σ (upd H p (dctO p ([], 0))) fun y H1 => tv σ H1 fun v H2 => ∃ b k F, y = .ref b ∧ H2 p = some (dctO p ([], 0)) ∧ Same F H2 ∧ KeyT F b k ∧ ∀ u ep, RelV v u → Q (.ref p) (upd H2 p (dctO p ([(k, b, u)], ep)))
section
variable {K : PySem.W.Frag} {X : Cx} {W : WD} {ek ev : Expr} {tky tvl : TE} {pos : Pos}
theorem pe_dctnew (hu : X.A.units + 1 < cLine) (hk : PE X ek tky) (hv : PE X ev tvl) : PE X (.Dict [some ek] [ev] pos) (tDctNew tky tvl) := by
  refine ⟨fun pins s σ H Q I q => ?_⟩
  have hn := I.hok.fresh (Nat.le_refl s.heap.objs.size)
  have hb : (s.heap.objs.size == sysModules) = false := beq_eq_false_iff_ne.mpr (Ne.symm (Nat.ne_of_lt I.big))
  have new0 : ObjOk X.prog X.w (upd H s.heap.objs.size (dctO s.heap.objs.size ([], 0))) (s.heap.push { cls := .type "dict", data := .dict #[] }) s.heap.objs.size (dctO s.heap.objs.size ([], 0)) :=
    ⟨⟨Nat.zero_le _, hb, _, #[], Heap.get?_push_size _ rfl, ⟨rfl, rfl, rfl⟩, rfl, rfl, List.nodup_nil⟩, ⟨_, Heap.get?_push_size _ rfl⟩, fun h1 h2 ⟨z, hd, o, es, h3, r⟩ k => ⟨z, hd, o, es, k o h3, r⟩⟩
  have I1 := I.laid (a := s.heap.objs.size) (o := dctO s.heap.objs.size ([], 0)) (h' := s.heap.push { cls := .type "dict", data := .dict #[] }) (t' := s.toks) (fun _ _ q => Heap.get?_push_of_some _ q) (Nat.le_refl _) new0
  rw [arm_eval_Dict, zip_pairTrees [some ek] [ev] X.env pos (by rfl) (by rfl), dictDisplay_pairs (pairTrees [some ek] [ev] X.env pos) (fun z => nomatch z) (by rw [pairTrees_length [some ek] [ev] X.env pos (by rfl) (by rfl)]; show 1 < 17; omega)]
  refine wpAny_bind (wpAny_standAt (wpAny_bind (wpAny_subDictH (knd := tk X.prog X.w) (Q := fun d s' => wpAny (model X.prog X.w) X.A (pure (Value.ref d)) (EP X pins σ Q) X.xe s') (show X.A.units < cLine by omega) (by rw [pairTrees_length [some ek] [ev] X.env pos (by rfl) (by rfl)]; show 1 ≤ 15; omega) ?_)))
  refine pairTrees_cons_walk (thn (hk.run pins _ σ _ _ I1 (q _ hn)) fun u s1 ⟨y, H1, I2, ry, q1⟩ => thn (hv.run pins s1 σ H1 _ I2 q1) fun w2 s2 ⟨v, H2, I3, rv, b, k, F, ey, e, sm, kb, q2⟩ => pairTrees_nil_walk ?_)
  subst ey
  obtain rfl : u = Value.ref b := ry
  obtain ⟨h1, h2, h3⟩ := dct_ok I3 e sm (fun z hz => by cases hz)
  refine ⟨[(k, b, w2)], ⟨rfl, rfl, key_ok I3 sm kb, trivial⟩, h3, fun h' tk' dd' hsb => wpAny_pure ?_⟩
  have dd : h'.DictOfH (tk X.prog X.w) s.heap.objs.size [(k, b, w2)] := dd'
  obtain ⟨ep, new⟩ := dct_new (a := s.heap.objs.size) (P := X.prog) (w := X.w) (H' := upd H2 s.heap.objs.size (dctO s.heap.objs.size ([(k, b, w2)], 0))) (by show 1 ≤ sizeLine; rw [sizeLine_eq]; omega) h2 dd
  have he : ∃ q, h'.get? s.heap.objs.size = some q := let ⟨q, _, _, hq, _⟩ := dd; ⟨q, hq⟩
  exact ⟨.ref s.heap.objs.size, _, d_write I3 (by rw [e]; exact True.intro) hsb he new, rfl, q2 w2 ep rv⟩
def mDct (gk gv : DE → Option D) (h : DE → Option (List DV)) : DE → Option (List DV) := fun ρ => ((gk ρ).bind asKey).bind fun k => (gv ρ).bind fun d => (h ρ).bind fun xs => some (.dct [(k, d)] :: xs)
theorem pam_dct {es : List Expr} {ta : TA} {gk gv : DE → Option D} {ga : DE → Option (List DV)} (hu : X.A.units + 1 < cLine) (hk : PD K X ek tky gk) (hv : PD K X ev tvl gv) (hr : PAm K X es ta ga) (hs : starEach (.Dict [some ek] [ev] pos :: es) X.env = (false, eval (.Dict [some ek] [ev] pos) X.env) :: starEach es X.env := by rfl) :
    PAm K X (.Dict [some ek] [ev] pos :: es) (tCons (tDctNew tky tvl) ta) (mDct gk gv ga) :=
  ⟨fun k => pa_cons (pe_dctnew hu (hk.pe k) (hv.pe k)) (hr.pa k) hs, fun F0 H0 F ρ σ H ds r hg Q q => by
    obtain ⟨k, h1, h2⟩ := bindSome hg
    obtain ⟨dk, h3, h4⟩ := bindSome h1
    obtain ⟨d, h5, h6⟩ := bindSome h2
    obtain ⟨ds', h7, h8⟩ := bindSome h6
    cases h8
    intro p hp
    have x0 : Ext F H F (upd H p (dctO p ([], 0))) := Ext.loose r.f hp
    have fp : F p = none := r.f.free hp
    refine hk.ok F0 H0 F ρ σ _ dk (r.ext x0) h3 _ fun y F1 H1 x1 dp => ?_
    obtain ⟨b, rfl, kb⟩ := asKey_key h4 dp
    refine hv.ok F0 H0 F1 ρ σ H1 d ((r.ext x0).ext x1) h5 _ fun v F2 H2 x2 dpv => ?_
    have x12 := x1.trans x2
    have hp2 : H2 p = some (dctO p ([], 0)) := x12.h _ _ upd_same
    have fp2 : F2 p = none := x12.n _ fp (by rw [upd_same]; exact fun z => nomatch z)
    refine ⟨b, k, F2, rfl, hp2, x2.i, TupS.mono x2.f kb, fun u ep ru => ?_⟩
    have x3 : Ext F H F2 (upd H2 p (dctO p ([(k, b, u)], ep))) := by
      refine ⟨fun c o hc => ?_, x12.f, fun c o hc => ?_, fun c hc hg2 => x12.n c hc ?_⟩
      · rw [upd_ne (ne_of_none hc hp)]
        exact x12.h _ _ (by rw [upd_ne (ne_of_none hc hp)]; exact hc)
      · rw [upd_ne (ne_of_none hc fp2)]
        exact x12.i _ _ hc
      · rw [upd_ne (fun z => by subst z; exact hg2 hp)]
        exact hg2
    refine hr.ok F0 H0 F2 ρ σ _ ds' (r.ext x3) h7 _ fun vs as F4 H4 x4 d2 => q (.ref p :: vs) (p :: as) F4 H4 (x3.trans x4) (.mut rfl ⟨p, ([(k, b, u)], ep), rfl, x4.h _ _ upd_same, .cons (TupS.mono (x2.f.trans x4.f) kb) ru (Dp.mono x4.f dpv) .nil, x4.n _ fp2 (by rw [upd_same]; exact fun z => nomatch z), hp⟩ (fun hm => ?_) (d2.lower x3.h))
    have := d2.new p hm
    rw [upd_same] at this
    cases this⟩
theorem mDct_len {gk gv : DE → Option D} {h : DE → Option (List DV)} {n : Nat} (hh : ∀ ρ xs, h ρ = some xs → xs.length = n) : ∀ ρ xs, mDct gk gv h ρ = some xs → xs.length = n + 1 := fun ρ xs e => by
  obtain ⟨k, h1, h2⟩ := bindSome e
  obtain ⟨d, h5, h6⟩ := bindSome h2
  obtain ⟨ds', h7, h8⟩ := bindSome h6
  cases h8
  rw [List.length_cons, hh ρ ds' h7]
end
/-! ### for k in d -/
def Itx (a : Addr) (x : DX) : It :=
  ⟨fun i H => H a = some (dctO a x) ∧ i < x.1.length, fun i H v H' => H' = H ∧ ∃ y, x.1[i]? = some y ∧ v = .ref y.2.1, fun i H => H a = some (dctO a x) ∧ x.1.length ≤ i⟩
theorem dct_raw {P : Program} {w : World} {H : Hp} {h : Heap} {a : Addr} {x : DX} (ok : HOk P w H h) (e : H a = some (dctO a x)) : (a == sysModules) = false ∧ ∃ (o : Obj) (es : Array DictEntry), h.get? a = some o ∧ o.ExactDict ∧ o.data = .dict es x.2 ∧ es.size = x.1.length ∧ ∀ i : Nat, es[i]? = (x.1[i]?).map entT := by
  obtain ⟨⟨h1, h2, o, es, h3, h4, h5, h6, h7⟩, _⟩ := (show ObjOk P w H h a (.ext (dctAt a x)) from ok a _ e)
  refine ⟨h2, o, es, h3, h4, h5, ?_, fun i => ?_⟩
  · rw [← Array.length_toList, h6, List.length_map]
  · rw [← Array.getElem?_toList, h6, List.getElem?_map]
theorem turn_dct {P : Program} {w : World} {K : PySem.W.Frag} {tg : Expr} {a : Addr} {x : DX} (it : Addr) : Turn P w K tg (Itx a x) [it] it (fun i h => h.IsKeyIter it a i x.1.length x.2) where
  mem := by simp
  obj := fun i h st b hb => by
    have e : b = it := by simpa using hb
    subst e
    obtain ⟨oi, e, c, dd⟩ := st
    exact ⟨oi, e, fun v z => by rw [dd] at z; cases z⟩
  keep := fun i h h' st k => st.at fun oi e => k it (by simp) oi e
  item := by
    intro X hP hw hK hc i pins s σ H E I hf st hg
    subst hP hw hK
    obtain ⟨hd, hi⟩ := hg
    obtain ⟨f0, f1, f2, f3, f4, f5⟩ := hf it (by simp)
    obtain ⟨hs, o, es, hgd, hx, hdt, hsz, ent⟩ := dct_raw I.hok hd
    have hen : es[i]? = some (entT x.1[i]) := by rw [ent, List.getElem?_eq_getElem hi]; rfl
    refine next_key_item st hgd hdt hsz hen fun h' st' sb => ?_
    have I1 : Inv X pins σ H { s with heap := h' } := I.turned (t' := s.toks) (fun b ob hb e => (sb.2 b hb).trans e) f0 f1 f3 f4 f5
    obtain ⟨oi, e, c, dd⟩ := id st'
    exact ⟨_, rfl, go_of (s := { s with heap := h' }) e c dd (by decide) ⟨.ref x.1[i].2.1, H, I1, rfl, ⟨rfl, _, List.getElem?_eq_getElem hi, rfl⟩, st', fun b hb => (hf b hb).1⟩⟩
  done := by
    intro X hP hw hK hc i pins s σ H E I hf st hg
    subst hP hw hK
    obtain ⟨hd, hi⟩ := hg
    obtain ⟨f0, f1, f2, f3, f4, f5⟩ := hf it (by simp)
    obtain ⟨hs, o, es, hgd, hx, hdt, hsz, ent⟩ := dct_raw I.hok hd
    exact next_key_end (I.ok.hd hc) st hgd hdt hsz hi fun h' eb => ⟨rfl, I.turned (t' := s.toks) (fun b ob hb e => eb b ob hb e) f0 f1 f3 f4 f5⟩
  self := fun A i s Q E st h => by
    refine wpAny_pyIter_slot st.typeIs F.slot_dict_keyiterator_iter (wpAny_call_entry F.slot_dict_keyiterator_iter st.typeIs F.entry_dict_keyiterator_iter ?_ (F.args_dict_keyiterator_iter_1 _))
    show wpAny _ _ (ret (.ref it)) _ _ s
    exact wpAny_pure ⟨_, rfl, "dict_keyiterator", _, st.typeIs, F.slot_dict_keyiterator_next.lookup, h⟩
def iDct (td : TE) : TI := fun σ H R => td σ H fun z H1 => ∃ a x, z = .ref a ∧ H1 a = some (dctO a x) ∧ R (Itx a x) H1
section
variable {K : PySem.W.Frag} {X : Cx} {tg e : Expr} {td : TE} {p : Pos}
theorem pi_dct (he : PE X e td) : PI X tg e (iDct td) := by
  refine ⟨fun pins s σ H R I h => ?_⟩
  refine thn (he.run pins s σ H _ I h) fun u s1 ⟨z, H1, I1, rx, a, x, ez, hd, q⟩ => ?_
  subst ez
  obtain rfl : u = Value.ref a := rx
  obtain ⟨hs, o, es, hgd, hx, hdt, hsz, ent⟩ := dct_raw I1.hok hd
  refine iter_keys hs hgd hx hdt (pi_one (tk := s1.toks) I1 _ (turn_dct _) ⟨_, Heap.get?_push_size _ rfl, rfl, ?_⟩ q)
  rw [hsz] <;> rfl
def eDKeys (i : Nat) : DE → Option (List D) := fun ρ => match ρ[i]? with
  | some (.dct kvs) => some (kvs.map fun y => keyD y.1)
  | _ => none
theorem pil_dict (i : Nat) {x : Str} (hN : X.N[i]? = some x := by rfl) (hv : Vis X.env.scope x := by first | exact Or.inl rfl | exact Or.inr (Or.inl rfl) | exact Or.inr (Or.inr rfl)) (hd : (x == ("__debug__" : Str)) = false := by decide)
    (hcd : (x == ("__classdict__" : Str)) = false := by decide) : PIl K (Dp K) X tg (.Name x p) (iDct (tVar i)) (eDKeys i) :=
  ⟨fun _ => pi_dct (pe_var hN hv hd hcd), fun F0 H0 F ρ σ H ds r hg Q q => by
    obtain ⟨kvs, h3, h4⟩ := dct_get hg
    cases h4
    obtain ⟨o, e0, a0, x0, rfl, ha0, al0, fn0, hz0⟩ := r.get h3
    refine ⟨_, e0, a0, x0, rfl, ha0, q _ F H (Ext.refl r.f) fun i F' H' s1 s2 s3 => ?_⟩
    have hlen := al0.len
    refine ⟨fun d hd' => ?_, fun hd' => ⟨s3 _ _ ha0, ?_⟩⟩
    · rw [List.getElem?_map] at hd'
      cases hk : kvs[i]? with
      | none => rw [hk] at hd'; cases hd'
      | some y =>
        rw [hk] at hd'
        cases hd'
        obtain ⟨z, hz, e1, kt⟩ := al0.get hk
        refine ⟨⟨s3 _ _ ha0, (List.getElem?_eq_some_iff.mp hz).1⟩, fun v H'' yy => ?_⟩
        obtain ⟨rfl, y2, hy2, rfl⟩ := yy
        rw [hz] at hy2
        cases hy2
        refine ⟨F', Ext.refl s2, ?_⟩
        show Dp K F' (.ref z.2.1) (keyD y.1)
        rw [← e1]
        exact .tup (TupS.mono s1 kt) (DpAll.ofInts _)
    · rw [List.getElem?_map] at hd'
      cases hk : kvs[i]? with
      | none =>
        have := List.getElem?_eq_none_iff.mp hk
        omega
      | some y => rw [hk] at hd'; cases hd'⟩
end
end DL

/-! sorted of tuples of ints, of one length, small and not below 0: any number of them -/
namespace DL
open PySem PySem.Spec PyProof.Rows L2
theorem swo_rk (r : Value → Int) : SrtO.Swo fun v u => decide (r v < r u) := by
  refine ⟨fun x y h => ?_, fun x y z h1 h2 => ?_⟩
  · have := of_decide_eq_true h
    exact decide_eq_false (by omega)
  · have a := of_decide_eq_false h1
    have b := of_decide_eq_false h2
    exact decide_eq_false (by omega)
section
variable {prog : Program} {w : World} {A : Around} {E : Value → Shared → Prop} {s : Shared}
theorem tups_cmp {d : Nat} {B : Int} {vs : List Value} (x : TS.TupsOk s.heap d B vs) {r : Value → Int} (hr : ∀ v, v ∈ vs → ∀ ns, TS.TupInts s.heap v ns → r v = TS.code B ns) :
    SrtO.Cmp prog w A s (tuples' true) (fun p => p.1 ∈ vs) (SrtO.lt2 fun v u => decide (r v < r u)) := by
  intro p q hp hq
  obtain ⟨ns, tp, lp, bp⟩ := x _ hp
  obtain ⟨ms, tq, lq, bq⟩ := x _ hq
  have ep := hr _ hp _ tp
  have eq2 := hr _ hq _ tq
  show wpAny (model prog w) A (keyLt' (tuples' true) p.1 q.1) (fun b s' => s' = s ∧ b = decide (r p.1 < r q.1)) (fun _ _ => False) s
  rw [ep, eq2]
  obtain ⟨a, xs, e1, ⟨o, ho, hc, n, hdt⟩, i⟩ := tp
  obtain ⟨a', ys, e2, ⟨o', ho', hc', n', hdt'⟩, i'⟩ := tq
  rw [e1, e2]
  refine PySem.W.kat_lt ho hdt ho' hdt' ?_
  have sz : decide (xs.size < ys.size) = false := by
    have l1 := i.length
    have l2 := i'.length
    rw [Array.length_toList] at l1 l2
    exact decide_eq_false (by omega)
  rw [sz]
  exact TS.lex_ints 0 i i' (by omega) bp bq ⟨rfl, rfl⟩
theorem tups_sortable {a : Addr} {d : Nat} {B : Int} {vs : List Value} (hd : 1 ≤ d) (h0 : 0 < vs.length) (x : TS.TupsOk s.heap d B vs) {r : Value → Int} (hr : ∀ v, v ∈ vs → ∀ ns, TS.TupInts s.heap v ns → r v = TS.code B ns) (ha : ∀ o, s.heap.get? a = some o → o.cls ≠ .type "tuple") :
    SrtO.SortableO prog w A s a vs fun v u => decide (r v < r u) := by
  intro h' keep
  have kp : ∀ b o, s.heap.get? b = some o → o.cls = .type "tuple" → h'.get? b = some o := fun b o e c => keep b o (fun z => by subst z; exact ha o e c) e
  have x' : TS.TupsOk h' d B vs := x.keeps kp
  have hr' : ∀ v, v ∈ vs → ∀ ns, TS.TupInts h' v ns → r v = TS.code B ns := fun v hv ns t => by
    obtain ⟨ms, t2, _⟩ := x v hv
    have e1 := t2.keeps kp
    have : ns = ms := by rw [← t.ints, e1.ints]
    rw [this]
    exact hr v hv ms t2
  obtain ⟨fs, h1, h2, h3⟩ := TS.firsts_of hd vs x'
  refine ⟨tuples' true, fun Q E hq => ?_, tups_cmp (s := { s with heap := h' }) x' hr'⟩
  refine PySem.W.kat_kind (T := .type "int") h1 (by omega) (fun f hm => ?_) (by rfl) ?_
  · obtain ⟨n, t, rfl⟩ := h3 f hm
    exact PySem.W.Looks.now
  · have e : (Value.type "int" != Value.type "tuple") = true := by first | decide +kernel | rfl | decide
    rw [e]
    exact hq
/-- sorted(l): sorted by the code, the same items -/
theorem sorted_tups {l : Addr} {vs : List Value} {d : Nat} {B : Int} {Q : Value → Shared → Prop} (hd : 1 ≤ d) (hl : s.heap.IsList l vs.toArray) (hz : vs.length ≤ sizeLine) (x : TS.TupsOk s.heap d B vs) {r : Value → Int} (hr : ∀ v, v ∈ vs → ∀ ns, TS.TupInts s.heap v ns → r v = TS.code B ns)
    (h : ∀ (h' : Heap) (p : Addr) (out : List Value), out.Pairwise (fun v u => r v ≤ r u) → out.Perm vs → (∀ b o, s.heap.get? b = some o → h'.get? b = some o) → s.heap.objs.size ≤ p → (∃ n, h'.get? p = some (seqObj "list" out.toArray n)) → Q (.ref p) { s with heap := h' }) :
    wpAny (model prog w) A (call (.builtin "sorted") [.ref l]) Q E s := by
  refine SrtO.sorted_ord (swo_rk r) hl hz (fun h2 h₁ a ha kk => ?_) fun out hs hb => ?_
  · refine tups_sortable (s := { s with heap := h₁ }) hd (by omega) (x.keeps fun b o e _ => (kk b o e).2) (fun v hv ns t => ?_) fun o e => ?_
    · obtain ⟨ms, t2, _⟩ := x v hv
      have e1 := t2.keeps (h' := h₁) fun b o e _ => (kk b o e).2
      have : ns = ms := by rw [← t.ints, e1.ints]
      rw [this]
      exact hr v hv ms t2
    · have e' : some o = some (seqObj "list" vs.toArray 0) := e.symm.trans ha
      cases e'
      intro c
      exact absurd (Value.type.inj c) (by decide)
  · refine h _ _ out (hs.imp fun hx => ?_) hb.perm (fun b o e => sortedAll_old e) (Nat.le_succ _) (sortedAll_at s.heap vs out.toArray)
    have := of_decide_eq_false hx
    omega
end
/-! ### on data -/
def dec (B : Int) : Nat → Int → List Int
  | 0, _ => []
  | n + 1, c => c / B ^ n :: dec B n (c % B ^ n)
theorem dec_code {B : Int} (hB : 0 < B) : ∀ {ns : List Int}, TS.Bd B ns → dec B ns.length (TS.code B ns) = ns
  | [], _ => rfl
  | d :: r, h => by
    obtain ⟨c0, c1⟩ := TS.code_bd r h.tail
    have hp : 0 < B ^ r.length := Int.pow_pos hB
    show (d * B ^ r.length + TS.code B r) / B ^ r.length :: dec B r.length ((d * B ^ r.length + TS.code B r) % B ^ r.length) = d :: r
    rw [Int.add_comm, Int.add_mul_ediv_right _ _ (by omega), Int.ediv_eq_zero_of_lt c0 c1, Int.zero_add, Int.add_mul_emod_self_right, Int.emod_eq_of_lt c0 c1, dec_code hB h.tail]
def asKeys : List D → Option (List (List Int))
  | [] => some []
  | d :: ds => (asKey d).bind fun k => (asKeys ds).bind fun ks => some (k :: ks)
def okKey (d : Nat) (k : List Int) : Bool := decide (k.length = d) && k.all fun i => decide (0 ≤ i) && decide (i < 1000)
def keyLen : List (List Int) → Nat
  | [] => 1
  | k :: _ => k.length
/-- the tuples in order -/
def sortK (ks : List (List Int)) : List (List Int) := (isort (ks.map (TS.code 1000))).map (dec 1000 (keyLen ks))
def lSortT (d : D) : Option (List D) := ((asL d).bind asKeys).bind fun ks => if 1 ≤ keyLen ks ∧ ks.all (okKey (keyLen ks)) = true then some ((sortK ks).map keyD) else none
theorem okKey_ok {d : Nat} {k : List Int} (h : okKey d k = true) : k.length = d ∧ TS.Bd 1000 k := by
  unfold okKey at h
  rw [Bool.and_eq_true, decide_eq_true_eq, List.all_eq_true] at h
  refine ⟨h.1, fun m hm => ?_⟩
  have := h.2 m hm
  rw [Bool.and_eq_true, decide_eq_true_eq, decide_eq_true_eq] at this
  exact this
theorem asKeys_dp {K : PySem.W.Frag} {F : Hp} : ∀ {vs : List V} {ds : List D} {ks : List (List Int)}, DpAll K F vs ds → asKeys ds = some ks → Paired (fun v k => ∃ t, v = V.ref t ∧ KeyT F t k) vs ks
  | _, _, _, .nil, h => by cases h; exact .nil
  | _, _, _, .cons a t, h => by
    obtain ⟨k, h1, h2⟩ := bindSome h
    obtain ⟨l, h3, h4⟩ := bindSome h2
    cases h4
    obtain ⟨b, e, kb⟩ := asKey_key h1 a
    exact .cons ⟨b, e, kb⟩ (asKeys_dp t h3)
def rSortedT (K : PySem.W.Frag) : List V → Hp → VK → Prop := fun vs H Q => ∃ (a : Addr) (xs : List V) (ks : List (List Int)) (F : Hp), vs = [V.ref a] ∧ SqL K H a xs ∧ Same F H ∧ Paired (fun v k => ∃ t, v = V.ref t ∧ KeyT F t k) xs ks ∧ 1 ≤ keyLen ks ∧ (∀ k ∈ ks, k.length = keyLen ks ∧ TS.Bd 1000 k) ∧
  ∀ (ys : List V) (ls : List (List Int)) (p : Addr), Paired (fun v k => ∃ t, v = V.ref t ∧ KeyT F t k) ys ls → ls = sortK ks → H p = none → Q (.ref p) (upd H p (.lst ys))
theorem paired_mem {α β : Type} {R : α → β → Prop} {xs : List α} {ys : List β} (h : Paired R xs ys) {x : α} (hx : x ∈ xs) : ∃ y ∈ ys, R x y := by
  induction h with
  | nil => cases hx
  | cons a _ ih =>
    rcases List.mem_cons.mp hx with rfl | hx
    · exact ⟨_, List.mem_cons_self, a⟩
    · obtain ⟨y, hy, r⟩ := ih hx
      exact ⟨y, List.mem_cons_of_mem _ hy, r⟩
theorem paired_of {α β : Type} {R : α → β → Prop} (f : α → β) : ∀ {xs : List α}, (∀ x ∈ xs, R x (f x)) → Paired R xs (xs.map f)
  | [], _ => .nil
  | x :: xs, h => .cons (h x List.mem_cons_self) (paired_of f fun y hy => h y (List.mem_cons_of_mem _ hy))
theorem paired_back {F : Hp} : ∀ {its : List Value} {ks : List (List Int)}, Paired (fun v k => ∃ t, v = V.ref t ∧ KeyT F t k) (its.map backV) ks → (∀ u ∈ its, ∃ a, u = Value.ref a) → Paired (fun v k => ∃ t, v = Value.ref t ∧ KeyT F t k) its ks
  | [], _, h, _ => by rw [List.map_nil] at h; cases h; exact .nil
  | u :: its, _, h, e2 => by
    rw [List.map_cons] at h
    cases h with
    | cons h t =>
      obtain ⟨t1, e, kt⟩ := h
      obtain ⟨b, rfl⟩ := e2 u List.mem_cons_self
      have e' : b = t1 := by cases e; rfl
      subst e'
      exact .cons ⟨_, rfl, kt⟩ (paired_back t fun y hy => e2 y (List.mem_cons_of_mem _ hy))
section
variable {X : Cx}
theorem key_tupInts {pins : List (Addr × Obj)} {σ : L2.St} {H F : Hp} {s : Shared} {t : Addr} {k : List Int} (I : Inv X pins σ H s) (sm : Same F H) (h : KeyT F t k) : TS.TupInts s.heap (.ref t) k := by
  obtain ⟨its, r, p, _⟩ := I.tuple (TupS.t (TupS.mono sm h))
  refine ⟨t, its.toArray, rfl, p, ?_⟩
  have := r.ints
  simpa using this
theorem cr_sortedT : CallR X (.builtin "sorted") (rSortedT X.K) := by
  intro pins s σ H vs us Q I r h
  obtain ⟨a, xs, ks, F, rfl, hs, sm, pr, h1, hk, q⟩ := h
  obtain ⟨its, rv, hl, hz⟩ := I.list hs
  obtain ⟨u, rfl, ru⟩ := vals1 r
  obtain rfl : u = Value.ref a := ru
  obtain ⟨e1, e2⟩ := refs_back rv fun x m => by
    obtain ⟨k, _, t, e, _⟩ := paired_mem pr m
    exact ⟨t, e⟩
  -- every item is the tuple of a key
  have hit : ∀ v ∈ its, ∃ t k, v = Value.ref t ∧ k ∈ ks ∧ KeyT F t k := fun v hv => by
    obtain ⟨t, rfl⟩ := e2 v hv
    have hm : V.ref t ∈ xs := by rw [e1]; exact List.mem_map.mpr ⟨_, hv, rfl⟩
    obtain ⟨k, hkm, t', e, kt⟩ := paired_mem pr hm
    cases e
    exact ⟨t, k, rfl, hkm, kt⟩
  have hok : TS.TupsOk s.heap (keyLen ks) 1000 its := fun v hv => by
    obtain ⟨t, k, rfl, hkm, kt⟩ := hit v hv
    exact ⟨k, key_tupInts I sm kt, (hk k hkm).1, (hk k hkm).2⟩
  have hr : ∀ v, v ∈ its → ∀ ns, TS.TupInts s.heap v ns → TS.code 1000 (TS.intsOf s.heap v) = TS.code 1000 ns := fun v _ ns t => by rw [t.ints]
  refine sorted_tups (r := fun v => TS.code 1000 (TS.intsOf s.heap v)) h1 hl.isList (by rw [← rv.length]; exact hz) hok hr fun h' d out hs' hp k hd hn => ?_
  have h3 : ∀ u ∈ out, ∃ a, u = Value.ref a := fun u hu => e2 u (hp.mem_iff.mp hu)
  obtain ⟨n, hn⟩ := hn
  refine ⟨.ref d, upd H d (.lst (out.map backV)), I.laid (t' := s.toks) k hd ⟨?_, out, n, vals_back h3, hn⟩, rfl, q _ ((out.map (TS.intsOf s.heap))) d ?_ ?_ (I.hok.fresh hd)⟩
  · rw [List.length_map, hp.length_eq, ← rv.length]; exact hz
  · have : ∀ u ∈ out, (fun v k => ∃ t, v = V.ref t ∧ KeyT F t k) (backV u) (TS.intsOf s.heap u) := fun u hu => by
      obtain ⟨t, k, rfl, hkm, kt⟩ := hit u (hp.mem_iff.mp hu)
      refine ⟨t, rfl, ?_⟩
      rw [(key_tupInts I sm kt).ints]
      exact kt
    clear hs' hp hn h3
    induction out with
    | nil => exact .nil
    | cons u out ih => exact .cons (this u List.mem_cons_self) (ih fun y hy => this y (List.mem_cons_of_mem _ hy))
  · -- the keys in order
    have hcodes : (out.map fun v => TS.code 1000 (TS.intsOf s.heap v)) = isort (ks.map (TS.code 1000)) := by
      refine isort_of ?_ ?_
      · have p1 : (out.map fun v => TS.code 1000 (TS.intsOf s.heap v)).Perm (its.map fun v => TS.code 1000 (TS.intsOf s.heap v)) := hp.map _
        have p2 : (its.map fun v => TS.code 1000 (TS.intsOf s.heap v)) = ks.map (TS.code 1000) := by
          have hpr : Paired (fun v k => ∃ t, v = Value.ref t ∧ KeyT F t k) its ks := by
            rw [e1] at pr
            exact paired_back pr e2
          clear hit hok hr hs' hp hn h3 p1 hl hz h1 hk q e1 e2 rv pr
          induction hpr with
          | nil => rfl
          | cons h _ ih =>
            obtain ⟨t, rfl, kt⟩ := h
            rw [List.map_cons, List.map_cons, ih, (key_tupInts I sm kt).ints]
        rw [p2] at p1
        exact p1
      · exact List.pairwise_map.mpr hs'
    unfold sortK
    rw [← hcodes, List.map_map]
    refine List.map_congr_left fun u hu => ?_
    obtain ⟨t, k, rfl, hkm, kt⟩ := hit u (hp.mem_iff.mp hu)
    show _ = dec 1000 (keyLen ks) (TS.code 1000 (TS.intsOf s.heap (.ref t)))
    rw [(key_tupInts I sm kt).ints, ← (hk k hkm).1]
    exact (dec_code (by decide) (hk k hkm).2).symm
end
section
variable {K : PySem.W.Frag} {X : Cx} {a : Expr} {ta : TE} {g : DE → Option D} {p pos : Pos} {gl : DE → Option (List D)}
theorem keys_dp {F : Hp} : ∀ {ys : List V} {ls : List (List Int)}, Paired (fun v k => ∃ t, v = V.ref t ∧ KeyT F t k) ys ls → DpAll K F ys (ls.map keyD)
  | _, _, .nil => .nil
  | _, _, .cons h t => by
    obtain ⟨b, rfl, kt⟩ := h
    exact .cons (.tup kt (DpAll.ofInts _)) (keys_dp t)
theorem pn_sortedT (hg : Gl X "sorted") (hm : X.mg "sorted" = none) (ha : PL K X a ta gl) (na : starEach [a] X.env = (false, eval a X.env) :: starEach [] X.env := by rfl) (hpl : (backTo pos (starEach [] X.env)).any (·.1) = false := by rfl) :
    PN K X (.Call (.Name "sorted" p) [a] [] pos) (tCB (rSortedT K) (tCons ta tNil)) (fun ρ => (gl ρ).bind fun ds => lSortT (.list ds)) :=
  ⟨fun k => by have := cr_sortedT (X := X); rw [k] at this; exact pe_callB this hg hm (by decide +kernel) (pa_cons (ha.pe k) pa_nil na) (by decide) (by decide) na hpl, fun F0 H0 F ρ σ H d r hgd Q q => by
    obtain ⟨ds, h1, h2⟩ := bindSome hgd
    obtain ⟨ks, h3, h4⟩ := bindSome h2
    have h3' : asKeys ds = some ks := h3
    by_cases hc : 1 ≤ keyLen ks ∧ ks.all (okKey (keyLen ks)) = true
    · rw [if_pos hc] at h4
      cases h4
      refine ha.ok F0 H0 F ρ σ H ds r h1 _ fun a vs F1 H1 x1 sq al => ?_
      refine ⟨a, vs, ks, F1, rfl, sq, x1.i, asKeys_dp al h3', hc.1, fun k hk => okKey_ok (List.all_eq_true.mp hc.2 k hk), fun ys ls z pr e hz => ?_⟩
      subst e
      exact q z _ F1 _ (x1.trans (Ext.loose x1.i hz)) upd_same (x1.h.free hz) (x1.i.free hz) (keys_dp pr)
    · rw [if_neg hc] at h4
      cases h4⟩
end

/-! ### sorted of a tuple of ints -/
theorem u1 {k : Nat} {A : Around} (hr : Room k A) : A.units + 1 < cLine := by have := hr.units; omega
section
variable {prog : Program} {w : World} {A : Around} {E : Value → Shared → Prop} {s : Shared}
theorem sorted_ordT {l : Addr} {vs : List Value} {ltv : Value → Value → Bool} {Q : Value → Shared → Prop} (O : SrtO.Swo ltv) (hl : s.heap.IsTuple l vs.toArray) (hz : vs.length ≤ sizeLine)
    (hS : 2 ≤ vs.length → ∀ (h₁ : Heap) (a : Addr), SrtO.SortableO prog w A.in1.in1 { s with heap := h₁ } a vs ltv)
    (h : ∀ (h' : Heap) (d : Addr) (out : List Value), SrtO.Srtd ltv out → SrtO.Stb ltv out vs → (∀ b o, s.heap.get? b = some o → h'.get? b = some o) → s.heap.get? d = none → (∃ n, h'.get? d = some (seqObj "list" out.toArray n)) → Q (.ref d) { s with heap := h' }) :
    wpAny (model prog w) A (call (.builtin "sorted") [.ref l]) Q E s := by
  obtain ⟨o, ho, hc, n, hd⟩ := hl
  refine Calls.call_function_entry kind_sorted plain_sorted entry_sorted (args_sorted1 _) ?_
  unfold Builtin.«sorted»
  refine wpAny_bind (m := checkCount "sorted" 1 1 _) (wpAny_pure ?_)
  refine wpAny_bind (wpAny_collect_seq l (.inr rfl) ho hc hd (fun h' hk => ?_) (by rw [List.size_toArray]; exact hz))
  have e : vs.toArray.toList = vs := by simp
  rw [e]
  refine wpAny_bind (wpAny_newList ?_ hz)
  have hoL : (h'.push (seqObj "list" vs.toArray 0)).get? h'.objs.size = some (seqObj "list" vs.toArray 0) := Heap.get?_push_size _ rfl
  have hn : s.heap.get? h'.objs.size = none := by
    cases q : s.heap.get? h'.objs.size with
    | none => rfl
    | some o => exact absurd (Heap.lt_size (hk _ _ q)) (Nat.lt_irrefl _)
  show wpAny _ _ _ _ _ { s with heap := h'.push (seqObj "list" vs.toArray 0) }
  refine wpAny_bind (wpAny_holding (wpAny_call_entry slot_list_sort ⟨_, hoL, rfl⟩ entry_list_sort (SrtO.list_sort_ord O hoL hz (fun h2 => hS h2 _ _) fun out hs hb => ⟨_, rfl, ?_⟩) (args_list_sort _)))
  refine wpAny_pure ⟨_, rfl, h _ _ out hs hb (fun b o hb2 => ?_) hn ?_⟩
  · have hlt : b < h'.objs.size := Heap.lt_size (hk _ _ hb2)
    rw [sortedHeap_old (Nat.ne_of_lt hlt) (by rw [size_push']; exact Nat.lt_succ_of_lt hlt)]
    exact Heap.get?_push_of_some _ (hk _ _ hb2)
  · exact sortedHeap_at (n := 0) hoL
end
def rSortedIT (K : PySem.W.Frag) : List V → Hp → VK → Prop := fun vs H Q => ∃ (a : Addr) (ns : List Int), vs = [V.ref a] ∧ SqT K H a (ns.map V.int) ∧
  ∀ (ns' : List Int) (p : Addr), ns'.Perm ns → ns'.Pairwise (· ≤ ·) → H p = none → Q (.ref p) (upd H p (.lst (ns'.map V.int)))
theorem cr_sortedIT {X : Cx} : CallR X (.builtin "sorted") (rSortedIT X.K) := by
  intro pins s σ H vs us Q I r h
  obtain ⟨a, ns, rfl, hs, q⟩ := h
  obtain ⟨its, rv, hl, hz⟩ := I.tuple hs
  rw [Vals.ref1 r]
  have hi := rv.ints
  refine sorted_ordT SrtO.swo_int hl (by rw [← rv.length]; exact hz) (fun h2 h₁ a' => SrtO.ints_sortable hi h2) fun h' d out h1 h2 kk hd he => ?_
  obtain ⟨k1, k2, k3⟩ := SrtO.ints_out hi h1 h2
  obtain ⟨ep, he'⟩ := he
  have hlen : ((out.map SrtO.iv).map V.int).length ≤ sizeLine := by
    rw [List.length_map, k2.length_eq]
    rw [List.length_map] at hz
    exact hz
  have hn : H d = none := I.hok.gone hd
  exact ⟨.ref d, upd H d (.lst ((out.map SrtO.iv).map V.int)), I.laidN (t' := s.toks) kk hd hn ⟨hlen, out, ep, vals_of_ints k1, he'⟩, rfl, q _ _ k2 k3 hn⟩
def lSortedIT (d : D) : Option (List D) := ((asT d).bind asIs).bind fun ns => some ((isort ns).map PyData.int)
section
variable {K : PySem.W.Frag} {X : Cx} {a : Expr} {ta : TE} {g : DE → Option D} {p pos : Pos}
theorem pn_sortedIT (hg : Gl X "sorted") (hm : X.mg "sorted" = none) (ha : PD K X a ta g) (na : starEach [a] X.env = (false, eval a X.env) :: starEach [] X.env := by rfl) (hpl : (backTo pos (starEach [] X.env)).any (·.1) = false := by rfl) :
    PN K X (.Call (.Name "sorted" p) [a] [] pos) (tCB (rSortedIT K) (tCons ta tNil)) (e1 lSortedIT g) :=
  ⟨fun k => by have := cr_sortedIT (X := X); rw [k] at this; exact pe_callB this hg hm (by decide +kernel) (pa_cons (ha.pe k) pa_nil na) (by decide) (by decide) na hpl, fun F0 H0 F ρ σ H d r hgd Q q => by
    obtain ⟨d1, h1, h2⟩ := bindSome hgd
    obtain ⟨ns, h3, h4⟩ := bindSome h2
    obtain ⟨ds, h5, h6⟩ := bindSome h3
    cases h4
    have := asIs_some h6
    subst this
    cases d1 <;> simp only [asT] at h5 <;> cases h5
    refine ha.ok F0 H0 F ρ σ H _ r h1 _ fun v F1 H1 x1 dp => ?_
    cases dp with
    | tup sq al =>
      have := DpAll.ints al
      subst this
      refine ⟨_, ns, rfl, SqT.mono x1.i sq.t, fun ns' z pm up hz => ?_⟩
      rw [isort_of pm up]
      exact q z _ F1 _ (x1.trans (Ext.loose x1.i hz)) upd_same (x1.h.free hz) (x1.i.free hz) (DpAll.ofInts _)⟩
end
end DL

/-! ## the mirrors of the program's defs -/
namespace DL
open PySem PySem.Spec L2
def b_is_int : DS := (sRet (eOfB (eAnd (e1 (dIsK "int") (eVar 0)) (eAnd (eNot (e1 (dIsK "bool") (eVar 0))) (eChain dLe dLe (eVar 1) (eVar 0) (eVar 2))))))
def m_is_int : List D → Option D := runD 3 b_is_int
def b_is_pattern : DS := (sSeq (sIf (eOr (eNot (e1 (dIsK "tuple") (eVar 0))) (eNot (eChain dLe dLe (eC (.int 3)) (eCall cLen (eCons (eVar 0) eNil)) (eC (.int 5)))))
  (sRet (eC (.bool false)))
  sNext)
  (sSeq (sIf (eNot (eToB (eCall cAll (eCons (eOfL (eLc [1] (e1 asSeq (eVar 0)) (hName 1) eYes (eCall m_is_int (eCons (eVar 1) (eCons (eC (.int 0)) (eCons (e2 dSub (eCall cLen (eCons (eVar 0) eNil)) (eC (.int 1))) eNil)))))) eNil))))
  (sRet (eC (.bool false)))
  sNext)
  (sRet (eOfB (e2 dEq (e1 dLenSet (eVar 0)) (eCall cLen (eCons (eVar 0) eNil)))))))
def m_is_pattern : List D → Option D := runD 2 b_is_pattern
def b_are_patterns : DS := (sSeq (sIf (eOr (eNot (eChain dLe dLe (eC (.int 1)) (eCall cLen (eCons (eVar 0) eNil)) (eC (.int 4)))) (eNot (eToB (eCall cAll (eCons (eOfL (eLc [1] (e1 asSeq (eVar 0)) (hName 1) eYes (eCall m_is_pattern (eCons (eVar 1) eNil)))) eNil)))))
  (sRet (eC (.bool false)))
  sNext)
  (sRet (eOfB (e2 dEq (e1 dLenSet (eOfL (eLc [1] (e1 asSeq (eVar 0)) (hName 1) eYes (eCall cLen (eCons (eVar 1) eNil))))) (eC (.int 1))))))
def m_are_patterns : List D → Option D := runD 2 b_are_patterns
def b_is_program : DS := (sRet (eOfB (eAnd (e1 (dIsK "tuple") (eVar 0)) (eToB (eCall m_are_patterns (eCons (eVar 0) eNil))))))
def m_is_program : List D → Option D := runD 1 b_is_program
def b_check_pattern : DS := (sIf (eNot (eToB (eCall m_is_pattern (eCons (eVar 0) eNil))))
  sNever
  sNext)
def m_check_pattern : List D → Option D := runD 1 b_check_pattern
def b_find_combined : DS := (sRet (eTupL (eLc [2] (e1 asSeq (eVar 0)) (hName 2) eYes (e2 dIx (eVar 1) (eVar 2)))))
def m_find_combined : List D → Option D := runD 3 b_find_combined
def b_combined : DS := (sSeq (sExpr (eCall m_check_pattern (eCons (eVar 0) eNil)))
  (sSeq (sExpr (eCall m_check_pattern (eCons (eVar 1) eNil)))
  (sSeq (sIf (e2 dNe (eCall cLen (eCons (eVar 0) eNil)) (eCall cLen (eCons (eVar 1) eNil)))
  sNever
  sNext)
  (sRet (eCall m_find_combined (eCons (eVar 0) (eCons (eVar 1) eNil)))))))
def m_combined : List D → Option D := runD 2 b_combined
def b_find_reversed : DS := (sRet (eTupL (eLc [1] (e1 rng1 (eCall cLen (eCons (eVar 0) eNil))) (hName 1) eYes (e2 dIndex (eVar 0) (eVar 1)))))
def m_find_reversed : List D → Option D := runD 2 b_find_reversed
def b_reversed_pattern : DS := (sSeq (sExpr (eCall m_check_pattern (eCons (eVar 0) eNil)))
  (sRet (eCall m_find_reversed (eCons (eVar 0) eNil))))
def m_reversed_pattern : List D → Option D := runD 1 b_reversed_pattern
def b_cycles : DS := (sSeq (sExpr (eCall m_check_pattern (eCons (eVar 0) eNil)))
  (sSeq (sPar [1, 2] (mOwn (eLst eNil) (mOwn (eLst eNil) mNil)))
  (sSeq (sFor (e1 rng1 (eCall cLen (eCons (eVar 0) eNil))) (hName 3)
  (sSeq (sPar [4, 5] (mOwn (eLst eNil) (mDat (eVar 3) mNil)))
  (sSeq (whileD (e2 dNotIn (eVar 5) (eOfL (eOwn 2)))
  (sSeq (sApp 4 (eVar 5))
  (sSeq (sApp 2 (eVar 5))
  (sSet 5 (e2 dIx (eVar 0) (eVar 5))))) FUEL)
  (sIf (e2 dNe (eOfL (eOwn 4)) (eOfL (eLst eNil)))
  (sApp 1 (eTupL (eOwn 4)))
  sNext))))
  (sFz 1 (sRet (eVar 1))))))
def m_cycles : List D → Option D := runD 6 b_cycles
def b_first_pattern : DS := (sRet (eTupL (rgN (eVar 0))))
def m_first_pattern : List D → Option D := runD 1 b_first_pattern
def b_find_order : DS := (sSeq (sPar [1, 2] (mDat (eVar 0) (mDat (eC (.int 1)) mNil)))
  (sSeq (whileD (e2 dNe (eVar 1) (eCall m_first_pattern (eCons (eCall cLen (eCons (eVar 0) eNil)) eNil)))
  (sPar [1, 2] (mDat (eCall m_find_combined (eCons (eVar 1) (eCons (eVar 0) eNil))) (mDat (e2 dAdd (eVar 2) (eC (.int 1))) mNil))) FUEL)
  (sRet (eVar 2))))
def m_find_order : List D → Option D := runD 3 b_find_order
def b_order : DS := (sSeq (sExpr (eCall m_check_pattern (eCons (eVar 0) eNil)))
  (sRet (eCall m_find_order (eCons (eVar 0) eNil))))
def m_order : List D → Option D := runD 1 b_order
def b__law_pick : DS := (sSeq (sSet 3 (eIf (e2 dNe (eVar 0) (eOfL (eLst eNil))) (e2 dIx (eVar 0) (e2 dMod (eVar 1) (eCall cLen (eCons (eVar 0) eNil)))) (eC (.int 0))))
  (sSeq (sPar [4, 5] (mDat (e2 dDiv (eVar 3) (e2 dPow (eC (.int 10)) (eC (.int 18)))) (mDat (e2 dDiv (eVar 1) (eCall cMax2 (eCons (eCall cLen (eCons (eVar 0) eNil)) (eCons (eC (.int 1)) eNil)))) mNil)))
  (sSeq (whileD (eAnd (e2 dGt (eVar 4) (eC (.int 0))) (e2 dGt (eVar 5) (eC (.int 0))))
  (sPar [4, 5] (mDat (e2 dDiv (eVar 4) (eC (.int 840))) (mDat (e2 dSub (eVar 5) (eC (.int 1))) mNil))) FUEL)
  (sSeq (sIf (e2 dGt (eVar 4) (eC (.int 0)))
  (sRet (e2 dMod (e2 dMod (eVar 4) (eC (.int 840))) (eVar 2)))
  sNext)
  (sSeq (sSet 6 (e2 dMod (e2 dMul (e2 dAdd (e2 dMul (eVar 3) (eC (.int 31))) (e2 dMul (eC (.int 6151)) (e2 dAdd (eVar 1) (eC (.int 1))))) (eC (.int 40692))) (eC (.int 2147483399))))
  (sRet (e2 dMod (e2 dMod (e2 dAdd (e2 dMul (eVar 6) (eVar 6)) (e2 dDiv (eVar 6) (eC (.int 31)))) (eC (.int 2147483629))) (eVar 2))))))))
def m__law_pick : List D → Option D := runD 7 b__law_pick
def b__law_swap : DS := (sSeq (sPar [3, 4] (mOwn (rgN (eVar 2)) (mOwn (eLst eNil) mNil)))
  (sSeq (sFor (e1 rng1 (eVar 2)) (hName 5)
  (sAppPop 4 3 (eCall m__law_pick (eCons (eVar 0) (eCons (e2 dAdd (eVar 1) (eVar 5)) (eCons (eCall cLen (eCons (eOfL (eOwn 3)) eNil)) eNil))))))
  (sRet (eTupL (eOwn 4)))))
def m__law_swap : List D → Option D := runD 6 b__law_swap
def b_check_program : DS := (sIf (eNot (eToB (eCall m_is_program (eCons (eVar 0) eNil))))
  sNever
  sNext)
def m_check_program : List D → Option D := runD 1 b_check_program
def b_find_product : DS := (sSeq (sSet 1 (eCall m_first_pattern (eCons (eCall cLen (eCons (e2 dIx (eVar 0) (eC (.int 0))) eNil)) eNil)))
  (sSeq (sFor (e1 asSeq (eVar 0)) (hName 2)
  (sSet 1 (eCall m_find_combined (eCons (eVar 1) (eCons (eVar 2) eNil)))))
  (sRet (eVar 1))))
def m_find_product : List D → Option D := runD 3 b_find_product
def b_product : DS := (sSeq (sExpr (eCall m_check_program (eCons (eVar 0) eNil)))
  (sRet (eCall m_find_product (eCons (eVar 0) eNil))))
def m_product : List D → Option D := runD 1 b_product
def b_full_turn : DS := (sSeq (sOwn 1 (eLst (eCons (eCall m_first_pattern (eCons (eCall cLen (eCons (e2 dIx (eVar 0) (eC (.int 0))) eNil)) eNil)) eNil)))
  (sSeq (sFor (e1 rng1 (e2 dMul (eCall cLen (eCons (eVar 0) eNil)) (eCall m_find_order (eCons (eCall m_find_product (eCons (eVar 0) eNil)) eNil)))) (hName 2)
  (sApp 1 (eCall m_find_combined (eCons (eIxL (eOwn 1) (e1 dNeg (eC (.int 1)))) (eCons (e2 dIx (eVar 0) (e2 dMod (eVar 2) (eCall cLen (eCons (eVar 0) eNil)))) eNil)))))
  (sFz 1 (sRet (eSlice (eVar 1) (fun _ => some none) (ePart (e1 dNeg (eC (.int 1)))))))))
def m_full_turn : List D → Option D := runD 3 b_full_turn
def b_find_places : DS := (sSeq (sSet 2 (eCall m_full_turn (eCons (eVar 0) eNil)))
  (sRet (e2 dIx (eVar 2) (e2 dMod (eVar 1) (eCall cLen (eCons (eVar 2) eNil))))))
def m_find_places : List D → Option D := runD 3 b_find_places
def b_check_number : DS := (sIf (eNot (eToB (eCall m_is_int (eCons (eVar 0) (eCons (eC (.int 0)) (eCons (eC (.int 1000000)) eNil))))))
  sNever
  sNext)
def m_check_number : List D → Option D := runD 1 b_check_number
def b_check_tyre : DS := (sIf (eNot (eToB (eCall m_is_int (eCons (eVar 1) (eCons (eC (.int 0)) (eCons (e2 dSub (eCall cLen (eCons (e2 dIx (eVar 0) (eC (.int 0))) eNil)) (eC (.int 1))) eNil))))))
  sNever
  sNext)
def m_check_tyre : List D → Option D := runD 2 b_check_tyre
def b_place_of : DS := (sSeq (sExpr (eCall m_check_program (eCons (eVar 0) eNil)))
  (sSeq (sExpr (eCall m_check_tyre (eCons (eVar 0) (eCons (eVar 1) eNil))))
  (sSeq (sExpr (eCall m_check_number (eCons (eVar 2) eNil)))
  (sRet (e2 dIx (eCall m_find_places (eCons (eVar 0) (eCons (eVar 2) eNil))) (eVar 1))))))
def m_place_of : List D → Option D := runD 3 b_place_of
def b_arrangement : DS := (sSeq (sExpr (eCall m_check_program (eCons (eVar 0) eNil)))
  (sSeq (sExpr (eCall m_check_number (eCons (eVar 1) eNil)))
  (sRet (eCall m_find_reversed (eCons (eCall m_find_places (eCons (eVar 0) (eCons (eVar 1) eNil))) eNil)))))
def m_arrangement : List D → Option D := runD 2 b_arrangement
def b_find_visited : DS := (sRet (eOfL (e1 lSortSet (eOfL (eLc [2] (e1 asSeq (eCall m_full_turn (eCons (eVar 0) eNil))) (hName 2) eYes (e2 dIx (eVar 2) (eVar 1)))))))
def m_find_visited : List D → Option D := runD 3 b_find_visited
def b_visited : DS := (sSeq (sExpr (eCall m_check_program (eCons (eVar 0) eNil)))
  (sSeq (sExpr (eCall m_check_tyre (eCons (eVar 0) (eCons (eVar 1) eNil))))
  (sRet (eCall m_find_visited (eCons (eVar 0) (eCons (eVar 1) eNil))))))
def m_visited : List D → Option D := runD 2 b_visited
def b_go_everywhere : DS := (sSeq (sExpr (eCall m_check_program (eCons (eVar 0) eNil)))
  (sSeq (sSet 1 (eCall cLen (eCons (e2 dIx (eVar 0) (eC (.int 0))) eNil)))
  (sRet (eCall cAll (eCons (eOfL (eLc [2] (e1 rng1 (eVar 1)) (hName 2) eYes (eOfB (e2 dEq (eCall cLen (eCons (eCall m_find_visited (eCons (eVar 0) (eCons (eVar 2) eNil))) eNil)) (eVar 1))))) eNil)))))
def m_go_everywhere : List D → Option D := runD 3 b_go_everywhere
def b__law_plan : DS := (sRet (eTupL (eLc [4] (e1 rng1 (e2 dAdd (eC (.int 1)) (eCall m__law_pick (eCons (eVar 0) (eCons (eVar 1) (eCons (eVar 3) eNil)))))) (hName 4) eYes (eCall m__law_swap (eCons (eVar 0) (eCons (e2 dAdd (e2 dAdd (eVar 1) (eC (.int 1))) (e2 dMul (eC (.int 5)) (eVar 4))) (eCons (eVar 2) eNil)))))))
def m__law_plan : List D → Option D := runD 5 b__law_plan
def b__law_walk : DS := (sSeq (sOwn 2 (eLst (eCons (eOfL (rgN (eCall cLen (eCons (e2 dIx (eVar 0) (eC (.int 0))) eNil)))) eNil)))
  (sSeq (sFor (e1 rng1 (eVar 1)) (hName 3)
  (sSeq (sPar [4, 5] (mDat (e2 dIx (eVar 0) (e2 dMod (eVar 3) (eCall cLen (eCons (eVar 0) eNil)))) (mOwn (eRep (eLst (eCons (eC (.int 0)) eNil)) (eCall cLen (eCons (e2 dIx (eVar 0) (eC (.int 0))) eNil))) mNil)))
  (sSeq (sFor (e1 rng1 (eCall cLen (eCons (eVar 4) eNil))) (hName 6)
  (sPut 5 (e2 dIx (eVar 4) (eVar 6)) (e2 dIx (eIxL (eOwn 2) (e1 dNeg (eC (.int 1)))) (eVar 6))))
  (sFz 5 (sApp 2 (eVar 5))))))
  (sFz 2 (sRet (eVar 2)))))
def m__law_walk : List D → Option D := runD 7 b__law_walk
def b_check_rates : DS := (sSeq (sExpr (eCall m_check_program (eCons (eVar 0) eNil)))
  (sSeq (sIf (eOr (eNot (e1 (dIsK "tuple") (eVar 1))) (e2 dNe (eCall cLen (eCons (eVar 1) eNil)) (eCall cLen (eCons (e2 dIx (eVar 0) (eC (.int 0))) eNil))))
  sNever
  sNext)
  (sIf (eNot (eToB (eCall cAll (eCons (eOfL (eLc [2] (e1 asSeq (eVar 1)) (hName 2) eYes (eCall m_is_int (eCons (eVar 2) (eCons (eC (.int 0)) (eCons (eC (.int 20)) eNil)))))) eNil))))
  sNever
  sNext)))
def m_check_rates : List D → Option D := runD 3 b_check_rates
def b_sums : DS := (sSeq (sOwn 2 (eLst (eCons (eOfL (eRep (eLst (eCons (eC (.int 0)) eNil)) (eCall cLen (eCons (eVar 1) eNil)))) eNil)))
  (sSeq (sFor (e1 asSeq (eCall m_full_turn (eCons (eVar 0) eNil))) (hName 3)
  (sApp 2 (eOfL (eLc [4, 5] (e2 dZipT (eIxL (eOwn 2) (e1 dNeg (eC (.int 1)))) (eVar 3)) (hTup (hsCons (hName 4) (hsCons (hName 5) hsNil))) eYes (e2 dAdd (eVar 4) (e2 dIx (eVar 1) (eVar 5)))))))
  (sFz 2 (sRet (eVar 2)))))
def m_sums : List D → Option D := runD 6 b_sums
def b_find_wear : DS := (sSeq (sSet 3 (eCall m_sums (eCons (eVar 0) (eCons (eVar 1) eNil))))
  (sSeq (sAsg (hTup (hsCons (hName 4) (hsCons (hName 5) hsNil))) (eDivmod (eVar 2) (e2 dSub (eCall cLen (eCons (eVar 3) eNil)) (eC (.int 1)))))
  (sRet (eOfL (eLc [6, 7] (e2 dZip (e2 dIx (eVar 3) (e1 dNeg (eC (.int 1)))) (e2 dIx (eVar 3) (eVar 5))) (hTup (hsCons (hName 6) (hsCons (hName 7) hsNil))) eYes (e2 dAdd (e2 dMul (eVar 4) (eVar 6)) (eVar 7)))))))
def m_find_wear : List D → Option D := runD 8 b_find_wear
def b_wear_after : DS := (sSeq (sExpr (eCall m_check_rates (eCons (eVar 0) (eCons (eVar 1) eNil))))
  (sSeq (sExpr (eCall m_check_number (eCons (eVar 2) eNil)))
  (sRet (eCall m_find_wear (eCons (eVar 0) (eCons (eVar 1) (eCons (eVar 2) eNil)))))))
def m_wear_after : List D → Option D := runD 3 b_wear_after
def b_spread : DS := (sRet (e2 dSub (eCall cMax (eCons (eVar 0) eNil)) (eCall cMin (eCons (eVar 0) eNil))))
def m_spread : List D → Option D := runD 1 b_spread
def b_spread_after : DS := (sSeq (sExpr (eCall m_check_rates (eCons (eVar 0) (eCons (eVar 1) eNil))))
  (sSeq (sExpr (eCall m_check_number (eCons (eVar 2) eNil)))
  (sRet (eCall m_spread (eCons (eCall m_find_wear (eCons (eVar 0) (eCons (eVar 1) (eCons (eVar 2) eNil)))) eNil)))))
def m_spread_after : List D → Option D := runD 3 b_spread_after
def b_stays : DS := (sRet (eOfB (e2 dEq (eCall m_spread (eCons (e2 dIx (eCall m_sums (eCons (eVar 0) (eCons (eVar 1) eNil))) (e1 dNeg (eC (.int 1)))) eNil)) (eC (.int 0)))))
def m_stays : List D → Option D := runD 2 b_stays
def b_is_bounded : DS := (sSeq (sExpr (eCall m_check_rates (eCons (eVar 0) (eCons (eVar 1) eNil))))
  (sRet (eCall m_stays (eCons (eVar 0) (eCons (eVar 1) eNil)))))
def m_is_bounded : List D → Option D := runD 2 b_is_bounded
def b_greatest_spread : DS := (sSeq (sExpr (eCall m_check_rates (eCons (eVar 0) (eCons (eVar 1) eNil))))
  (sSeq (sIf (eNot (eToB (eCall m_stays (eCons (eVar 0) (eCons (eVar 1) eNil)))))
  (sRet (eC .none))
  sNext)
  (sRet (eCall cMax (eCons (eOfL (eLc [2] (e1 asSeq (eCall m_sums (eCons (eVar 0) (eCons (eVar 1) eNil)))) (hName 2) eYes (eCall m_spread (eCons (eVar 2) eNil)))) eNil)))))
def m_greatest_spread : List D → Option D := runD 3 b_greatest_spread
def b__law_prices : DS := (sRet (eTupL (eLc [3] (e1 rng1 (eVar 2)) (hName 3) eYes (e2 dIx (eTup (eCons (eC (.int 3)) (eCons (eC (.int 3)) (eCons (eC (.int 1)) (eCons (eC (.int 0)) (eCons (eC (.int 1)) (eCons (eC (.int 2)) (eCons (eC (.int 5)) (eCons (eC (.int 20)) eNil))))))))) (eCall m__law_pick (eCons (eVar 0) (eCons (e2 dAdd (eVar 1) (eVar 3)) (eCons (eC (.int 8)) eNil))))))))
def m__law_prices : List D → Option D := runD 4 b__law_prices
def b__law_use : DS := (sSeq (sOwn 3 (eLst (eCons (eOfL (eRep (eLst (eCons (eC (.int 0)) eNil)) (eCall cLen (eCons (eVar 1) eNil)))) eNil)))
  (sSeq (sFor (e1 asSeq (eSlice (eCall m__law_walk (eCons (eVar 0) (eCons (eVar 2) eNil))) (fun _ => some none) (ePart (eVar 2)))) (hName 4)
  (sApp 3 (eOfL (eLc [5] (e1 rng1 (eCall cLen (eCons (eVar 1) eNil))) (hName 5) eYes (e2 dAdd (e2 dIx (eIxL (eOwn 3) (e1 dNeg (eC (.int 1)))) (eVar 5)) (e2 dIx (eVar 1) (e2 dIndex (eVar 4) (eVar 5))))))))
  (sFz 3 (sRet (eVar 3)))))
def m__law_use : List D → Option D := runD 6 b__law_use
def b_turns_for : DS := (sSeq (sSet 2 (e2 dIndex (eVar 0) (eCall cMax (eCons (eVar 0) eNil))))
  (sSeq (sSet 3 (e2 dIndex (eVar 0) (eCall cMin (eCons (eVar 0) eNil))))
  (sSeq (sAsg (hTup (hsCons (hName 4) (hsCons (hName 5) hsNil))) (eDivmod (e2 dSub (e2 dIx (eVar 1) (eVar 3)) (e2 dIx (eVar 1) (eVar 2))) (e2 dSub (e2 dIx (eVar 0) (eVar 2)) (e2 dIx (eVar 0) (eVar 3)))))
  (sSeq (sIf (eOr (e2 dNe (eVar 5) (eC (.int 0))) (e2 dLt (eVar 4) (eC (.int 0))))
  (sRet (eC .none))
  sNext)
  (sRet (eIf (e2 dEq (eCall m_spread (eCons (eOfL (eLc [6, 7] (e2 dZip (eVar 0) (eVar 1)) (hTup (hsCons (hName 6) (hsCons (hName 7) hsNil))) eYes (e2 dAdd (e2 dMul (eVar 4) (eVar 6)) (eVar 7)))) eNil)) (eC (.int 0))) (eVar 4) (eC .none)))))))
def m_turns_for : List D → Option D := runD 8 b_turns_for
def b_find_single : DS := (sSeq (sPar [2, 3] (mDat (eCall m_sums (eCons (eVar 0) (eCons (eVar 1) eNil))) (mOwn (eLst eNil) mNil)))
  (sSeq (sSet 4 (e2 dSub (eCall cLen (eCons (eVar 2) eNil)) (eC (.int 1))))
  (sSeq (sFor (e1 rng1 (eVar 4)) (hName 5)
  (sSeq (sSet 6 (eCall m_turns_for (eCons (e2 dIx (eVar 2) (e1 dNeg (eC (.int 1)))) (eCons (e2 dIx (eVar 2) (eVar 5)) eNil))))
  (sIf (eAnd (e2 dNotN (eVar 6) (eC .none)) (e2 dGt (e2 dAdd (e2 dMul (eVar 6) (eVar 4)) (eVar 5)) (eC (.int 0))))
  (sApp 3 (e2 dAdd (e2 dMul (eVar 6) (eVar 4)) (eVar 5)))
  sNext)))
  (sRet (eOfL (e1 lSorted (eOfL (eOwn 3))))))))
def m_find_single : List D → Option D := runD 7 b_find_single
def b_find_repeated : DS := (sSeq (sSet 2 (eCall m_sums (eCons (eVar 0) (eCons (eVar 1) eNil))))
  (sRet (eOfL (eLc [3] (e2 range2 (eC (.int 1)) (eCall cLen (eCons (eVar 2) eNil))) (hName 3) (e2 dEq (eCall m_spread (eCons (e2 dIx (eVar 2) (eVar 3)) eNil)) (eC (.int 0))) (eVar 3)))))
def m_find_repeated : List D → Option D := runD 4 b_find_repeated
def b_first_equal : DS := (sSeq (sExpr (eCall m_check_rates (eCons (eVar 0) (eCons (eVar 1) eNil))))
  (sSeq (sSet 2 (eIf (eToB (eCall m_stays (eCons (eVar 0) (eCons (eVar 1) eNil)))) (eCall m_find_repeated (eCons (eVar 0) (eCons (eVar 1) eNil))) (eCall m_find_single (eCons (eVar 0) (eCons (eVar 1) eNil)))))
  (sRet (eIf (e2 dNe (eVar 2) (eOfL (eLst eNil))) (e2 dIx (eVar 2) (eC (.int 0))) (eC .none)))))
def m_first_equal : List D → Option D := runD 3 b_first_equal
def b_is_equal_again : DS := (sSeq (sExpr (eCall m_check_rates (eCons (eVar 0) (eCons (eVar 1) eNil))))
  (sRet (eCall m_stays (eCons (eVar 0) (eCons (eVar 1) eNil)))))
def m_is_equal_again : List D → Option D := runD 2 b_is_equal_again
def b_count_equal : DS := (sSeq (sExpr (eCall m_check_rates (eCons (eVar 0) (eCons (eVar 1) eNil))))
  (sSeq (sExpr (eCall m_check_number (eCons (eVar 2) eNil)))
  (sSeq (sIf (eNot (eToB (eCall m_stays (eCons (eVar 0) (eCons (eVar 1) eNil)))))
  (sRet (eCall cLen (eCons (eOfL (eLc [3] (e1 asSeq (eCall m_find_single (eCons (eVar 0) (eCons (eVar 1) eNil)))) (hName 3) (e2 dLe (eVar 3) (eVar 2)) (eVar 3))) eNil)))
  sNext)
  (sSeq (sSet 4 (eCall m_find_repeated (eCons (eVar 0) (eCons (eVar 1) eNil))))
  (sSeq (sAsg (hTup (hsCons (hName 5) (hsCons (hName 6) hsNil))) (eDivmod (eVar 2) (eCall cLen (eCons (eCall m_full_turn (eCons (eVar 0) eNil)) eNil))))
  (sRet (e2 dAdd (e2 dMul (eVar 5) (eCall cLen (eCons (eVar 4) eNil))) (eCall cLen (eCons (eOfL (eLc [3] (e1 asSeq (eVar 4)) (hName 3) (e2 dLe (eVar 3) (eVar 6)) (eVar 3))) eNil)))))))))
def m_count_equal : List D → Option D := runD 7 b_count_equal
def b_always_fair : DS := (sSeq (sExpr (eCall m_check_program (eCons (eVar 0) eNil)))
  (sSeq (sSet 1 (eCall cLen (eCons (e2 dIx (eVar 0) (eC (.int 0))) eNil)))
  (sSeq (sSet 2 (eOfL (eLc [4] (e1 rng1 (eVar 1)) (hName 4) eYes (eTupL (eLc [3] (e1 rng1 (eVar 1)) (hName 3) eYes (eIf (e2 dEq (eVar 3) (eVar 4)) (eC (.int 1)) (eC (.int 0))))))))
  (sRet (eCall cAll (eCons (eOfL (eLc [5] (e1 asSeq (eVar 2)) (hName 5) eYes (eCall m_stays (eCons (eVar 0) (eCons (eVar 5) eNil))))) eNil))))))
def m_always_fair : List D → Option D := runD 6 b_always_fair
def b_check_place : DS := (sSeq (sExpr (eCall m_check_program (eCons (eVar 0) eNil)))
  (sIf (eNot (eToB (eCall m_is_int (eCons (eVar 1) (eCons (eC (.int 0)) (eCons (e2 dSub (eCall cLen (eCons (e2 dIx (eVar 0) (eC (.int 0))) eNil)) (eC (.int 1))) eNil))))))
  sNever
  sNext))
def m_check_place : List D → Option D := runD 2 b_check_place
def b_find_spares : DS := (sRet (eOfL (eLc [2] (e1 asSeq (eCall m_full_turn (eCons (eVar 0) eNil))) (hName 2) eYes (e2 dIndex (eVar 2) (eVar 1)))))
def m_find_spares : List D → Option D := runD 3 b_find_spares
def b_find_counts : DS := (sSeq (sSet 2 (eCall m_find_spares (eCons (eVar 0) (eCons (eVar 1) eNil))))
  (sRet (eOfL (eLc [3] (e1 rng1 (eCall cLen (eCons (e2 dIx (eVar 0) (eC (.int 0))) eNil))) (hName 3) eYes (e2 dCount (eVar 2) (eVar 3))))))
def m_find_counts : List D → Option D := runD 4 b_find_counts
def b_spare_counts : DS := (sSeq (sExpr (eCall m_check_place (eCons (eVar 0) (eCons (eVar 1) eNil))))
  (sRet (eCall m_find_counts (eCons (eVar 0) (eCons (eVar 1) eNil)))))
def m_spare_counts : List D → Option D := runD 2 b_spare_counts
def b_never_spare : DS := (sSeq (sExpr (eCall m_check_place (eCons (eVar 0) (eCons (eVar 1) eNil))))
  (sRet (eOfL (eLc [2, 3] (e1 dEnum (eCall m_find_counts (eCons (eVar 0) (eCons (eVar 1) eNil)))) (hTup (hsCons (hName 2) (hsCons (hName 3) hsNil))) (e2 dEq (eVar 3) (eC (.int 0))) (eVar 2)))))
def m_never_spare : List D → Option D := runD 4 b_never_spare
def b_is_shared : DS := (sSeq (sExpr (eCall m_check_place (eCons (eVar 0) (eCons (eVar 1) eNil))))
  (sRet (eOfB (e2 dEq (e1 dLenSet (eCall m_find_counts (eCons (eVar 0) (eCons (eVar 1) eNil)))) (eC (.int 1))))))
def m_is_shared : List D → Option D := runD 2 b_is_shared
def b_longest_spare : DS := (sSeq (sExpr (eCall m_check_place (eCons (eVar 0) (eCons (eVar 1) eNil))))
  (sSeq (sSet 2 (eCall m_find_spares (eCons (eVar 0) (eCons (eVar 1) eNil))))
  (sSeq (sIf (e2 dEq (e1 dLenSet (eVar 2)) (eC (.int 1)))
  (sRet (eC .none))
  sNext)
  (sSeq (sPar [3, 4, 5] (mDat (eC (.int 0)) (mDat (eC (.int 0)) (mDat (eC .none) mNil))))
  (sSeq (sFor (e1 asSeq (e2 dAdd (eVar 2) (eVar 2))) (hName 6)
  (sSeq (sSet 4 (eIf (e2 dEq (eVar 6) (eVar 5)) (e2 dAdd (eVar 4) (eC (.int 1))) (eC (.int 1))))
  (sPar [3, 5] (mDat (eCall cMax2 (eCons (eVar 3) (eCons (eVar 4) eNil))) (mDat (eVar 6) mNil)))))
  (sRet (eVar 3)))))))
def m_longest_spare : List D → Option D := runD 7 b_longest_spare
def b__law_drawn : DS := (sSeq (sSet 3 (e2 dMul (eC (.int 7)) (eVar 1)))
  (sSeq (sIf (e2 dNe (eVar 0) (eOfL (eLst eNil)))
  (sSeq (sSet 3 (e2 dIx (eVar 0) (e2 dMod (eVar 1) (eCall cLen (eCons (eVar 0) eNil)))))
  (sSeq (sSet 4 (e2 dDiv (eVar 1) (eCall cLen (eCons (eVar 0) eNil))))
  (sSeq (sIf (eAnd (e2 dGe (eVar 3) (e2 dPow (eC (.int 10)) (eC (.int 18)))) (e2 dLt (eVar 4) (eC (.int 60))))
  (sSeq (sSet 5 (e2 dDiv (eVar 3) (e2 dPow (eC (.int 10)) (eC (.int 18)))))
  (sSeq (whileD (eAnd (e2 dGt (eVar 5) (eC (.int 0))) (e2 dGt (eVar 4) (eC (.int 0))))
  (sSeq (sSet 5 (e2 dDiv (eVar 5) (eC (.int 1000000))))
  (sSet 4 (e2 dSub (eVar 4) (eC (.int 1))))) FUEL)
  (sIf (e2 dGt (eVar 5) (eC (.int 0)))
  (sRet (e2 dMod (e2 dMod (eVar 5) (eC (.int 1000000))) (eVar 2)))
  sNext)))
  sNext)
  (sSet 3 (e2 dAdd (eVar 3) (e2 dMul (eC (.int 6553)) (e2 dDiv (eVar 1) (eCall cLen (eCons (eVar 0) eNil)))))))))
  sNext)
  (sSeq (sSet 3 (e2 dMod (e2 dAdd (e2 dMul (e2 dMod (eVar 3) (eC (.int 2147483563))) (eC (.int 69069))) (e2 dMul (eC (.int 104723)) (e2 dAdd (eVar 1) (eC (.int 1))))) (eC (.int 2147483563))))
  (sSeq (sSet 3 (e2 dMod (e2 dAdd (e2 dMul (eVar 3) (eVar 3)) (e2 dDiv (eVar 3) (eC (.int 3)))) (eC (.int 2147483399))))
  (sRet (e2 dMod (e2 dDiv (e2 dMod (e2 dAdd (e2 dMul (eVar 3) (eVar 3)) (e2 dDiv (eVar 3) (eC (.int 7)))) (eC (.int 2147483647))) (eC (.int 11))) (eVar 2)))))))
def m__law_drawn : List D → Option D := runD 6 b__law_drawn
def b__law_pattern : DS := (sSeq (sPar [3, 4] (mOwn (rgN (eVar 2)) (mOwn (eLst eNil) mNil)))
  (sSeq (sFor (e1 rng1 (eVar 2)) (hName 5)
  (sAppPop 4 3 (eCall m__law_drawn (eCons (eVar 0) (eCons (e2 dAdd (eVar 1) (eVar 5)) (eCons (eCall cLen (eCons (eOfL (eOwn 3)) eNil)) eNil))))))
  (sRet (eTupL (eOwn 4)))))
def m__law_pattern : List D → Option D := runD 6 b__law_pattern
def b__law_program : DS := (sSeq (sSet 2 (e2 dAdd (eC (.int 3)) (eCall m__law_drawn (eCons (eVar 0) (eCons (eVar 1) (eCons (eC (.int 3)) eNil))))))
  (sRet (eTupL (eLc [3] (e1 rng1 (e2 dAdd (eC (.int 1)) (eCall m__law_drawn (eCons (eVar 0) (eCons (e2 dAdd (eVar 1) (eC (.int 1))) (eCons (eC (.int 3)) eNil)))))) (hName 3) eYes (eCall m__law_pattern (eCons (eVar 0) (eCons (e2 dAdd (e2 dAdd (eVar 1) (eC (.int 2))) (e2 dMul (eC (.int 5)) (eVar 3))) (eCons (eVar 2) eNil))))))))
def m__law_program : List D → Option D := runD 4 b__law_program
def b_check_lengths : DS := (sSeq (sIf (eOr (eNot (e1 (dIsK "list") (eVar 0))) (eNot (eChain dLe dLe (eC (.int 1)) (eCall cLen (eCons (eVar 0) eNil)) (eC (.int 6)))))
  sNever
  sNext)
  (sIf (eNot (eToB (eCall cAll (eCons (eOfL (eLc [1] (e1 asSeq (eVar 0)) (hName 1) eYes (eCall m_is_int (eCons (eVar 1) (eCons (eC (.int 1)) (eCons (eC (.int 50)) eNil)))))) eNil))))
  sNever
  sNext))
def m_check_lengths : List D → Option D := runD 2 b_check_lengths
def b_find_wear_lengths : DS := (sSeq (sPar [4, 5] (mDat (eCall m_full_turn (eCons (eVar 0) eNil)) (mDat (eOfL (eRep (eLst (eCons (eC (.int 0)) eNil)) (eCall cLen (eCons (eVar 1) eNil)))) mNil)))
  (sSeq (sFor (e1 rng1 (eVar 3)) (hName 6)
  (sSeq (sPar [7, 8] (mDat (e2 dIx (eVar 4) (e2 dMod (eVar 6) (eCall cLen (eCons (eVar 4) eNil)))) (mDat (e2 dIx (eVar 2) (e2 dMod (eVar 6) (eCall cLen (eCons (eVar 2) eNil)))) mNil)))
  (sSet 5 (eOfL (eLc [9, 10] (e2 dZipT (eVar 5) (eVar 7)) (hTup (hsCons (hName 9) (hsCons (hName 10) hsNil))) eYes (e2 dAdd (eVar 9) (e2 dMul (e2 dIx (eVar 1) (eVar 10)) (eVar 8))))))))
  (sRet (eVar 5))))
def m_find_wear_lengths : List D → Option D := runD 11 b_find_wear_lengths
def b_wear_with : DS := (sSeq (sExpr (eCall m_check_rates (eCons (eVar 0) (eCons (eVar 1) eNil))))
  (sSeq (sExpr (eCall m_check_lengths (eCons (eVar 2) eNil)))
  (sSeq (sIf (eNot (eToB (eCall m_is_int (eCons (eVar 3) (eCons (eC (.int 0)) (eCons (eC (.int 1000)) eNil))))))
  sNever
  sNext)
  (sRet (eCall m_find_wear_lengths (eCons (eVar 0) (eCons (eVar 1) (eCons (eVar 2) (eCons (eVar 3) eNil)))))))))
def m_wear_with : List D → Option D := runD 4 b_wear_with
def b_find_turn : DS := (sSeq (sSet 2 (eCall cLen (eCons (eCall m_full_turn (eCons (eVar 0) eNil)) eNil)))
  (sSeq (sSet 3 (eVar 2))
  (sSeq (whileD (e2 dNe (e2 dMod (eVar 3) (eCall cLen (eCons (eVar 1) eNil))) (eC (.int 0)))
  (sSet 3 (e2 dAdd (eVar 3) (eVar 2))) FUEL)
  (sRet (eVar 3)))))
def m_find_turn : List D → Option D := runD 4 b_find_turn
def b_common_turn : DS := (sSeq (sExpr (eCall m_check_program (eCons (eVar 0) eNil)))
  (sSeq (sExpr (eCall m_check_lengths (eCons (eVar 1) eNil)))
  (sRet (eCall m_find_turn (eCons (eVar 0) (eCons (eVar 1) eNil))))))
def m_common_turn : List D → Option D := runD 2 b_common_turn
def b_bounded_with : DS := (sSeq (sExpr (eCall m_check_rates (eCons (eVar 0) (eCons (eVar 1) eNil))))
  (sSeq (sExpr (eCall m_check_lengths (eCons (eVar 2) eNil)))
  (sRet (eOfB (e2 dEq (eCall m_spread (eCons (eCall m_find_wear_lengths (eCons (eVar 0) (eCons (eVar 1) (eCons (eVar 2) (eCons (eCall m_find_turn (eCons (eVar 0) (eCons (eVar 2) eNil))) eNil))))) eNil)) (eC (.int 0)))))))
def m_bounded_with : List D → Option D := runD 3 b_bounded_with
def b__law_rates : DS := (sRet (eTupL (eLc [3] (e1 rng1 (eVar 2)) (hName 3) eYes (eIxL (eLst (eCons (eC (.int 1)) (eCons (eC (.int 2)) (eCons (eC (.int 3)) (eCons (eCall m__law_drawn (eCons (eVar 0) (eCons (e2 dAdd (eVar 1) (eVar 3)) (eCons (eC (.int 21)) eNil)))) eNil))))) (eCall m__law_drawn (eCons (eVar 0) (eCons (e2 dAdd (e2 dAdd (eVar 1) (eC (.int 5))) (eVar 3)) (eCons (eC (.int 4)) eNil))))))))
def m__law_rates : List D → Option D := runD 4 b__law_rates
def bx_check_pattern : DS := (sIf (eNot (eToB (eCall m_is_pattern (eCons (eVar 0) eNil))))
  (sRaise "InvalidPattern")
  sNext)
def x_check_pattern : List D → XR := runX 1 bx_check_pattern
def bx_check_program : DS := (sIf (eNot (eToB (eCall m_is_program (eCons (eVar 0) eNil))))
  (sRaise "InvalidProgram")
  sNext)
def x_check_program : List D → XR := runX 1 bx_check_program
def bx_check_tyre : DS := (sIf (eNot (eToB (eCall m_is_int (eCons (eVar 1) (eCons (eC (.int 0)) (eCons (e2 dSub (eCall cLen (eCons (e2 dIx (eVar 0) (eC (.int 0))) eNil)) (eC (.int 1))) eNil))))))
  (sRaise "InvalidTyre")
  sNext)
def x_check_tyre : List D → XR := runX 2 bx_check_tyre
def b_check_allowed : DS := (sIf (eOr (eNot (e1 (dIsK "list") (eVar 0))) (eNot (eToB (eCall m_are_patterns (eCons (eVar 0) eNil)))))
  sNever
  sNext)
def m_check_allowed : List D → Option D := runD 1 b_check_allowed
def bx_check_allowed : DS := (sIf (eOr (eNot (e1 (dIsK "list") (eVar 0))) (eNot (eToB (eCall m_are_patterns (eCons (eVar 0) eNil)))))
  (sRaise "InvalidAllowed")
  sNext)
def x_check_allowed : List D → XR := runX 1 bx_check_allowed
def b_check_sides : DS := (sSeq (sIf (eOr (eNot (e1 (dIsK "tuple") (eVar 0))) (eNot (eChain dLe dLe (eC (.int 3)) (eCall cLen (eCons (eVar 0) eNil)) (eC (.int 5)))))
  sNever
  sNext)
  (sIf (eNot (eToB (eCall cAll (eCons (eOfL (eLc [1] (e1 asSeq (eVar 0)) (hName 1) eYes (eCall m_is_int (eCons (eVar 1) (eCons (eC (.int 0)) (eCons (eC (.int 1)) eNil)))))) eNil))))
  sNever
  sNext))
def m_check_sides : List D → Option D := runD 2 b_check_sides
def bx_check_sides : DS := (sSeq (sIf (eOr (eNot (e1 (dIsK "tuple") (eVar 0))) (eNot (eChain dLe dLe (eC (.int 3)) (eCall cLen (eCons (eVar 0) eNil)) (eC (.int 5)))))
  (sRaise "InvalidSides")
  sNext)
  (sIf (eNot (eToB (eCall cAll (eCons (eOfL (eLc [1] (e1 asSeq (eVar 0)) (hName 1) eYes (eCall m_is_int (eCons (eVar 1) (eCons (eC (.int 0)) (eCons (eC (.int 1)) eNil)))))) eNil))))
  (sRaise "InvalidSides")
  sNext))
def x_check_sides : List D → XR := runX 2 bx_check_sides
def b_check_size : DS := (sIf (e2 dNe (eCall cLen (eCons (eVar 0) eNil)) (eCall cLen (eCons (eVar 1) eNil)))
  sNever
  sNext)
def m_check_size : List D → Option D := runD 2 b_check_size
def bx_check_size : DS := (sIf (e2 dNe (eCall cLen (eCons (eVar 0) eNil)) (eCall cLen (eCons (eVar 1) eNil)))
  (sRaise "OtherSize")
  sNext)
def x_check_size : List D → XR := runX 2 bx_check_size
def b_does_keep : DS := (sRet (eCall cAll (eCons (eOfL (eLc [2, 3] (e1 dEnumT (eVar 1)) (hTup (hsCons (hName 2) (hsCons (hName 3) hsNil))) eYes (eOfB (e2 dEq (e2 dIx (eVar 0) (eVar 2)) (e2 dIx (eVar 0) (eVar 3)))))) eNil)))
def m_does_keep : List D → Option D := runD 4 b_does_keep
def b_keeps_sides : DS := (sSeq (sExpr (eCall m_check_sides (eCons (eVar 0) eNil)))
  (sSeq (sExpr (eCall m_check_pattern (eCons (eVar 1) eNil)))
  (sSeq (sExpr (eCall m_check_size (eCons (eVar 0) (eCons (eVar 1) eNil))))
  (sRet (eCall m_does_keep (eCons (eVar 0) (eCons (eVar 1) eNil)))))))
def m_keeps_sides : List D → Option D := runD 2 b_keeps_sides
def bx_keeps_sides : DS := (sSeq (sExprX (xCall x_check_sides (eCons (eVar 0) eNil)))
  (sSeq (sExprX (xCall x_check_pattern (eCons (eVar 1) eNil)))
  (sSeq (sExprX (xCall x_check_size (eCons (eVar 0) (eCons (eVar 1) eNil))))
  (sRet (eCall m_does_keep (eCons (eVar 0) (eCons (eVar 1) eNil)))))))
def x_keeps_sides : List D → XR := runX 2 bx_keeps_sides
def b_first_change : DS := (sSeq (sExpr (eCall m_check_sides (eCons (eVar 0) eNil)))
  (sSeq (sExpr (eCall m_check_program (eCons (eVar 1) eNil)))
  (sSeq (sExpr (eCall m_check_size (eCons (eVar 0) (eCons (e2 dIx (eVar 1) (eC (.int 0))) eNil))))
  (sSeq (sExpr (eCall m_check_tyre (eCons (eVar 1) (eCons (eVar 2) eNil))))
  (sSeq (sFor (e1 dEnum (eCall m_full_turn (eCons (eVar 1) eNil))) (hTup (hsCons (hName 3) (hsCons (hName 4) hsNil)))
  (sIf (e2 dNe (e2 dIx (eVar 0) (e2 dIx (eVar 4) (eVar 2))) (e2 dIx (eVar 0) (eVar 2)))
  (sRet (e2 dAdd (eVar 3) (eC (.int 1))))
  sNext))
  (sRet (eC .none)))))))
def m_first_change : List D → Option D := runD 5 b_first_change
def bx_first_change : DS := (sSeq (sExprX (xCall x_check_sides (eCons (eVar 0) eNil)))
  (sSeq (sExprX (xCall x_check_program (eCons (eVar 1) eNil)))
  (sSeq (sExprX (xCall x_check_size (eCons (eVar 0) (eCons (e2 dIx (eVar 1) (eC (.int 0))) eNil))))
  (sSeq (sExprX (xCall x_check_tyre (eCons (eVar 1) (eCons (eVar 2) eNil))))
  (sSeq (sFor (e1 dEnum (eCall m_full_turn (eCons (eVar 1) eNil))) (hTup (hsCons (hName 3) (hsCons (hName 4) hsNil)))
  (sIf (e2 dNe (e2 dIx (eVar 0) (e2 dIx (eVar 4) (eVar 2))) (e2 dIx (eVar 0) (eVar 2)))
  (sRet (e2 dAdd (eVar 3) (eC (.int 1))))
  sNext))
  (sRet (eC .none)))))))
def x_first_change : List D → XR := runX 5 bx_first_change
def b_count_keeping : DS := (sSeq (sExpr (eCall m_check_sides (eCons (eVar 0) eNil)))
  (sSeq (sSet 1 (eC (.int 1)))
  (sSeq (sFor (e1 asSeq (eTup (eCons (eC (.int 0)) (eCons (eC (.int 1)) eNil)))) (hName 2)
  (sFor (e1 rng1 (e2 dCount (eVar 0) (eVar 2))) (hName 3)
  (sSet 1 (e2 dMul (eVar 1) (e2 dAdd (eVar 3) (eC (.int 1)))))))
  (sRet (eVar 1)))))
def m_count_keeping : List D → Option D := runD 4 b_count_keeping
def bx_count_keeping : DS := (sSeq (sExprX (xCall x_check_sides (eCons (eVar 0) eNil)))
  (sSeq (sSet 1 (eC (.int 1)))
  (sSeq (sFor (e1 asSeq (eTup (eCons (eC (.int 0)) (eCons (eC (.int 1)) eNil)))) (hName 2)
  (sFor (e1 rng1 (e2 dCount (eVar 0) (eVar 2))) (hName 3)
  (sSet 1 (e2 dMul (eVar 1) (e2 dAdd (eVar 3) (eC (.int 1)))))))
  (sRet (eVar 1)))))
def x_count_keeping : List D → XR := runX 4 bx_count_keeping
def b_always_keep : DS := (sSeq (sExpr (eCall m_check_sides (eCons (eVar 0) eNil)))
  (sSeq (sExpr (eCall m_check_allowed (eCons (eVar 1) eNil)))
  (sSeq (sExpr (eCall m_check_size (eCons (eVar 0) (eCons (e2 dIx (eVar 1) (eC (.int 0))) eNil))))
  (sRet (eCall cAll (eCons (eOfL (eLc [2] (e1 asSeq (eVar 1)) (hName 2) eYes (eCall m_does_keep (eCons (eVar 0) (eCons (eVar 2) eNil))))) eNil))))))
def m_always_keep : List D → Option D := runD 3 b_always_keep
def bx_always_keep : DS := (sSeq (sExprX (xCall x_check_sides (eCons (eVar 0) eNil)))
  (sSeq (sExprX (xCall x_check_allowed (eCons (eVar 1) eNil)))
  (sSeq (sExprX (xCall x_check_size (eCons (eVar 0) (eCons (e2 dIx (eVar 1) (eC (.int 0))) eNil))))
  (sRet (eCall cAll (eCons (eOfL (eLc [2] (e1 asSeq (eVar 1)) (hName 2) eYes (eCall m_does_keep (eCons (eVar 0) (eCons (eVar 2) eNil))))) eNil))))))
def x_always_keep : List D → XR := runX 3 bx_always_keep
def b__law_moved : DS := (sRet (eTupL (eLc [2] (e1 rng1 (eCall cLen (eCons (eVar 1) eNil))) (hName 2) eYes (e2 dIx (eVar 0) (e2 dIndex (eVar 1) (eVar 2))))))
def m__law_moved : List D → Option D := runD 3 b__law_moved
def b__law_turn : DS := (sSeq (sSet 1 (eTupL (rgN (eCall cLen (eCons (e2 dIx (eVar 0) (eC (.int 0))) eNil)))))
  (sSeq (sPar [2, 3] (mOwn (eLst eNil) (mDat (eVar 1) mNil)))
  (sSeq (whileD (eOr (e2 dEq (eOfL (eOwn 2)) (eOfL (eLst eNil))) (eOr (e2 dNe (eVar 3) (eVar 1)) (e2 dNe (e2 dMod (eCall cLen (eCons (eOfL (eOwn 2)) eNil)) (eCall cLen (eCons (eVar 0) eNil))) (eC (.int 0)))))
  (sSeq (sApp 2 (eVar 3))
  (sSet 3 (eCall m__law_moved (eCons (eVar 3) (eCons (e2 dIx (eVar 0) (e2 dMod (e2 dSub (eCall cLen (eCons (eOfL (eOwn 2)) eNil)) (eC (.int 1))) (eCall cLen (eCons (eVar 0) eNil)))) eNil))))) FUEL)
  (sFz 2 (sRet (eVar 2))))))
def m__law_turn : List D → Option D := runD 4 b__law_turn
def b__law_badpattern : DS := (sSeq (sSet 2 (eOfL (eLst (eCons (eC .none) (eCons (eTup eNil) (eCons (eTup (eCons (eC (.int 0)) (eCons (eC (.int 1)) eNil))) (eCons (eTup (eCons (eC (.int 0)) (eCons (eC (.int 1)) (eCons (eC (.int 1)) eNil)))) (eCons (eTup (eCons (eC (.int 0)) (eCons (eC (.int 1)) (eCons (eC (.int 3)) eNil)))) (eCons (eTup (eCons (eC (.int 1)) (eCons (eC (.int 2)) (eCons (eC (.int 3)) eNil)))) (eCons (eOfL (eLst (eCons (eC (.int 0)) (eCons (eC (.int 1)) (eCons (eC (.int 2)) eNil))))) (eCons (eTup (eCons (eC (.int 0)) (eCons (eC (.int 1)) (eCons (eC (.int 2)) (eCons (eC (.int 3)) (eCons (eC (.int 4)) (eCons (eC (.int 5)) eNil))))))) eNil)))))))))))
  (sSeq (sSet 2 (eOfL (l2 lCat (eToL (eVar 2)) (eLst (eCons (eTup (eCons (eC (.int 0)) (eCons (eC (.bool true)) (eCons (eC (.int 2)) eNil)))) (eCons (eTup (eCons (eC (.int 0)) (eCons (eC (.str "1")) (eCons (eC (.int 2)) eNil)))) (eCons (eC (.int 5)) eNil)))))))
  (sRet (e2 dIx (eVar 2) (eCall m__law_drawn (eCons (eVar 0) (eCons (eVar 1) (eCons (eC (.int 11)) eNil))))))))
def m__law_badpattern : List D → Option D := runD 3 b__law_badpattern
def b__law_badprogram : DS := (sSeq (sPar [2, 3] (mDat (eTup (eCons (eC (.int 0)) (eCons (eC (.int 2)) (eCons (eC (.int 1)) eNil)))) (mDat (eTup (eCons (eC (.int 1)) (eCons (eC (.int 0)) (eCons (eC (.int 3)) (eCons (eC (.int 2)) eNil))))) mNil)))
  (sSeq (sSet 4 (eOfL (eLst (eCons (eC .none) (eCons (eTup eNil) (eCons (eVar 2) (eCons (eOfL (eLst (eCons (eVar 2) eNil))) (eCons (eTup (eCons (eVar 2) (eCons (eVar 3) eNil))) (eCons (e2 dMul (eTup (eCons (eVar 2) eNil)) (eC (.int 5))) (eCons (eTup (eCons (eTup (eCons (eC (.int 0)) (eCons (eC (.int 1)) (eCons (eC (.int 1)) eNil)))) eNil)) (eCons (eTup (eCons (eOfL (e1 asSeq (eVar 2))) eNil)) (eCons (eC (.int 5)) eNil))))))))))))
  (sSeq (sSet 4 (eOfL (l2 lCat (eToL (eVar 4)) (eLst (eCons (eTup (eCons (eVar 2) (eCons (eC .none) eNil))) eNil)))))
  (sRet (e2 dIx (eVar 4) (eCall m__law_drawn (eCons (eVar 0) (eCons (eVar 1) (eCons (eC (.int 10)) eNil)))))))))
def m__law_badprogram : List D → Option D := runD 5 b__law_badprogram
def b__law_reached : DS := (sSeq (sSet 1 (eOfL (eLst (eCons (eTupL (rgN (eCall cLen (eCons (e2 dIx (eVar 0) (eC (.int 0))) eNil)))) eNil))))
  (sSeq (sSet 2 (eOfL (e1 asSeq (eVar 1))))
  (sSeq (whileD (e2 dNe (eVar 2) (eOfL (eLst eNil)))
  (sSeq (sOwn 3 (eLst eNil))
  (sSeq (sFor (e1 asSeq (eVar 2)) (hName 4)
  (sFor (e1 asSeq (eVar 0)) (hName 5)
  (sSeq (sSet 6 (eCall m__law_moved (eCons (eVar 4) (eCons (eVar 5) eNil))))
  (sIf (e2 dNotIn (eVar 6) (eOfL (l2 lCat (eToL (eVar 1)) (eOwn 3))))
  (sApp 3 (eVar 6))
  sNext))))
  (sFz 3 (sPar [1, 2] (mDat (e2 dAdd (eVar 1) (eVar 3)) (mDat (eVar 3) mNil)))))) FUEL)
  (sRet (eVar 1)))))
def m__law_reached : List D → Option D := runD 7 b__law_reached
def bx_order : DS := (sSeq (sExprX (xCall x_check_pattern (eCons (eVar 0) eNil)))
  (sRet (eCall m_find_order (eCons (eVar 0) eNil))))
def x_order : List D → XR := runX 1 bx_order
def b_find_rows : DS := (sSeq (sSet 1 (eCall m_first_pattern (eCons (eCall cLen (eCons (e2 dIx (eVar 0) (eC (.int 0))) eNil)) eNil)))
  (sSeq (sPar [2, 3] (mDct (eVar 1) (eOfL (eLst eNil)) (mDat (eOfL (eLst (eCons (eVar 1) eNil))) mNil)))
  (sSeq (whileD (e2 dNe (eVar 3) (eOfL (eLst eNil)))
  (sSeq (sOwn 4 (eLst eNil))
  (sSeq (sFor (e1 asSeq (eVar 3)) (hName 5)
  (sFor (e1 dEnum (eVar 0)) (hTup (hsCons (hName 6) (hsCons (hName 7) hsNil)))
  (sSeq (sSet 8 (eCall m_find_combined (eCons (eVar 5) (eCons (eVar 7) eNil))))
  (sIf (eNot (eDHas 2 (eVar 8)))
  (sSeq (sDPutN 2 (eVar 8) (eOfL (l2 lCat (eToL (eDGet 2 (eVar 5))) (eLst (eCons (eVar 6) eNil)))))
  (sApp 4 (eVar 8)))
  sNext))))
  (sFz 4 (sSet 3 (eVar 4))))) FUEL)
  (sRet (eOfL (eLc [5] (eDKeys 2) (hName 5) eYes (eTup (eCons (eCall m_find_reversed (eCons (eVar 5) eNil)) (eCons (eDGet 2 (eVar 5)) eNil)))))))))
def m_find_rows : List D → Option D := runD 9 b_find_rows
def b_reachable : DS := (sSeq (sExpr (eCall m_check_allowed (eCons (eVar 0) eNil)))
  (sRet (eOfL (fun ρ => ((eLc [1, 2] (e1 asSeq (eCall m_find_rows (eCons (eVar 0) eNil))) (hTup (hsCons (hName 1) (hsCons (hName 2) hsNil))) eYes (eVar 1)) ρ).bind fun ds => lSortT (.list ds)))))
def m_reachable : List D → Option D := runD 3 b_reachable
def bx_reachable : DS := (sSeq (sExprX (xCall x_check_allowed (eCons (eVar 0) eNil)))
  (sRet (eOfL (fun ρ => ((eLc [1, 2] (e1 asSeq (eCall m_find_rows (eCons (eVar 0) eNil))) (hTup (hsCons (hName 1) (hsCons (hName 2) hsNil))) eYes (eVar 1)) ρ).bind fun ds => lSortT (.list ds)))))
def x_reachable : List D → XR := runX 3 bx_reachable
def b_exchange : DS := (sSeq (sOwn 2 (e1 asSeq (eVar 0)))
  (sSeq (sFor (e1 dEnumT (eVar 1)) (hTup (hsCons (hName 3) (hsCons (hName 4) hsNil)))
  (sPut 2 (eVar 4) (e2 dIx (eVar 0) (eVar 3))))
  (sRet (eTupL (eOwn 2)))))
def m_exchange : List D → Option D := runD 5 b_exchange
def b_naive_order : DS := (sSeq (sExpr (eCall m_check_pattern (eCons (eVar 0) eNil)))
  (sSeq (sSet 1 (eTupL (rgN (eCall cLen (eCons (eVar 0) eNil)))))
  (sSeq (sPar [2, 3] (mDat (eCall m_exchange (eCons (eVar 1) (eCons (eVar 0) eNil))) (mDat (eC (.int 1)) mNil)))
  (sSeq (whileD (e2 dNe (eVar 2) (eVar 1))
  (sPar [2, 3] (mDat (eCall m_exchange (eCons (eVar 2) (eCons (eVar 0) eNil))) (mDat (e2 dAdd (eVar 3) (eC (.int 1))) mNil))) FUEL)
  (sRet (eVar 3))))))
def m_naive_order : List D → Option D := runD 4 b_naive_order
def bx_naive_order : DS := (sSeq (sExprX (xCall x_check_pattern (eCons (eVar 0) eNil)))
  (sSeq (sSet 1 (eTupL (rgN (eCall cLen (eCons (eVar 0) eNil)))))
  (sSeq (sPar [2, 3] (mDat (eCall m_exchange (eCons (eVar 1) (eCons (eVar 0) eNil))) (mDat (eC (.int 1)) mNil)))
  (sSeq (whileD (e2 dNe (eVar 2) (eVar 1))
  (sPar [2, 3] (mDat (eCall m_exchange (eCons (eVar 2) (eCons (eVar 0) eNil))) (mDat (e2 dAdd (eVar 3) (eC (.int 1))) mNil))) FUEL)
  (sRet (eVar 3))))))
def x_naive_order : List D → XR := runX 4 bx_naive_order
def b_naive_reachable : DS := (sSeq (sExpr (eCall m_check_allowed (eCons (eVar 0) eNil)))
  (sSeq (sPar [1, 2] (mOwn (eLst (eCons (eTupL (rgN (eCall cLen (eCons (e2 dIx (eVar 0) (eC (.int 0))) eNil)))) eNil)) (mDat (eC (.int 0)) mNil)))
  (sSeq (whileD (e2 dLt (eVar 2) (eCall cLen (eCons (eOfL (eOwn 1)) eNil)))
  (sSeq (sPar [2, 3] (mDat (eCall cLen (eCons (eOfL (eOwn 1)) eNil)) (mDat (eOfL (eOwn 1)) mNil)))
  (sFor (e1 asSeq (eVar 3)) (hName 4)
  (sFor (e1 asSeq (eVar 0)) (hName 5)
  (sSeq (sSet 6 (eCall m_exchange (eCons (eVar 4) (eCons (eVar 5) eNil))))
  (sIf (e2 dNotIn (eVar 6) (eOfL (eOwn 1)))
  (sApp 1 (eVar 6))
  sNext))))) FUEL)
  (sRet (eOfL (fun ρ => ((eOwn 1) ρ).bind fun ds => lSortT (.list ds)))))))
def m_naive_reachable : List D → Option D := runD 7 b_naive_reachable
def bx_naive_reachable : DS := (sSeq (sExprX (xCall x_check_allowed (eCons (eVar 0) eNil)))
  (sSeq (sPar [1, 2] (mOwn (eLst (eCons (eTupL (rgN (eCall cLen (eCons (e2 dIx (eVar 0) (eC (.int 0))) eNil)))) eNil)) (mDat (eC (.int 0)) mNil)))
  (sSeq (whileD (e2 dLt (eVar 2) (eCall cLen (eCons (eOfL (eOwn 1)) eNil)))
  (sSeq (sPar [2, 3] (mDat (eCall cLen (eCons (eOfL (eOwn 1)) eNil)) (mDat (eOfL (eOwn 1)) mNil)))
  (sFor (e1 asSeq (eVar 3)) (hName 4)
  (sFor (e1 asSeq (eVar 0)) (hName 5)
  (sSeq (sSet 6 (eCall m_exchange (eCons (eVar 4) (eCons (eVar 5) eNil))))
  (sIf (e2 dNotIn (eVar 6) (eOfL (eOwn 1)))
  (sApp 1 (eVar 6))
  sNext))))) FUEL)
  (sRet (eOfL (fun ρ => ((eOwn 1) ρ).bind fun ds => lSortT (.list ds)))))))
def x_naive_reachable : List D → XR := runX 7 bx_naive_reachable
/-! ## the mirrors of the law's own defs -/
def b__law_error : DS := (sSeq (sTry (sExprX (xCallL [x_naive_order, x_naive_reachable] (eVar 0) (eCons (eVar 1) eNil))) 2 ["InvalidPattern", "InvalidAllowed"] (fun c => (sRet (e2 dIndex (eOfL (eLst (eCons (eOfB (eKb (isX c "InvalidPattern"))) (eCons (eOfB (eKb (isX c "InvalidAllowed"))) eNil)))) (eC (.bool true))))))
  (sRet (eC .none)))
def m__law_error : List D → Option D := runD 3 b__law_error

def b_law : DS := (sSeq (sSet 1 (eCall m__law_program (eCons (eVar 0) (eCons (eC (.int 10)) eNil))))
  (sSeq (sFor (e1 asSeq (eVar 1)) (hName 2)
  (sSeq (sSet 3 (eCall cLen (eCons (eCall m__law_turn (eCons (eTup (eCons (eVar 2) eNil)) eNil)) eNil)))
  (sIf (eOr (e2 dNe (eCall m_naive_order (eCons (eVar 2) eNil)) (eVar 3)) (e2 dNe (eCall m_order (eCons (eVar 2) eNil)) (eVar 3)))
  (sRet (eC (.bool false)))
  sNext)))
  (sSeq (sSet 4 (eOfL (e1 asSeq (eVar 1))))
  (sSeq (sSet 5 (eCall m__law_reached (eCons (eVar 4) eNil)))
  (sSeq (sIf (eOr (e2 dNe (eCall m_naive_reachable (eCons (eVar 4) eNil)) (eOfL (fun ρ => ((eToL (eVar 5)) ρ).bind fun ds => lSortT (.list ds)))) (e2 dNe (eCall m_reachable (eCons (eVar 4) eNil)) (eOfL (fun ρ => ((eToL (eVar 5)) ρ).bind fun ds => lSortT (.list ds)))))
  (sRet (eC (.bool false)))
  sNext)
  (sSeq (sSet 6 (eIxL (eLst (eCons (eC .none) (eCons (eTup eNil) (eCons (eOfL (eLst eNil)) (eCons (eVar 1) (eCons (eOfL (eLst (eCons (eTup (eCons (eC (.int 0)) (eCons (eC (.int 1)) (eCons (eC (.int 1)) eNil)))) eNil))) (eCons (eOfL (eLst (eCons (eTup (eCons (eC (.int 0)) (eCons (eC (.int 1)) (eCons (eC (.int 2)) eNil)))) (eCons (eTup (eCons (eC (.int 0)) (eCons (eC (.int 1)) (eCons (eC (.int 2)) (eCons (eC (.int 3)) eNil))))) eNil)))) (eCons (eOfL (eRep (eLst (eCons (eTup (eCons (eC (.int 0)) (eCons (eC (.int 1)) (eCons (eC (.int 2)) eNil)))) eNil)) (eC (.int 5)))) eNil)))))))) (eCall m__law_drawn (eCons (eVar 0) (eCons (eC (.int 1)) (eCons (eC (.int 7)) eNil))))))
  (sRet (eOfB (e2 dEq (eOfL (eLst (eCons (eCall m__law_error (eCons (eC (.int 0)) (eCons (eCall m__law_badpattern (eCons (eVar 0) (eCons (eC (.int 2)) eNil))) eNil))) (eCons (eCall m__law_error (eCons (eC (.int 1)) (eCons (eVar 6) eNil))) eNil)))) (eOfL (eLst (eCons (eC (.int 0)) (eCons (eC (.int 1)) eNil)))))))))))))
def m_law : List D → Option D := runD 7 b_law
def p_law_1 : DS := (sSeq (sSet 3 (eCall cLen (eCons (eCall m__law_turn (eCons (eTup (eCons (eVar 2) eNil)) eNil)) eNil))) (sIf (eOr (e2 dNe (eCall m_naive_order (eCons (eVar 2) eNil)) (eVar 3)) (e2 dNe (eCall m_order (eCons (eVar 2) eNil)) (eVar 3))) (sRet (eC (.bool false))) sNext))
def q_law_0_5 : DS := (sSeq (sSet 6 (eIxL (eLst (eCons (eC .none) (eCons (eTup eNil) (eCons (eOfL (eLst eNil)) (eCons (eVar 1) (eCons (eOfL (eLst (eCons (eTup (eCons (eC (.int 0)) (eCons (eC (.int 1)) (eCons (eC (.int 1)) eNil)))) eNil))) (eCons (eOfL (eLst (eCons (eTup (eCons (eC (.int 0)) (eCons (eC (.int 1)) (eCons (eC (.int 2)) eNil)))) (eCons (eTup (eCons (eC (.int 0)) (eCons (eC (.int 1)) (eCons (eC (.int 2)) (eCons (eC (.int 3)) eNil))))) eNil)))) (eCons (eOfL (eRep (eLst (eCons (eTup (eCons (eC (.int 0)) (eCons (eC (.int 1)) (eCons (eC (.int 2)) eNil)))) eNil)) (eC (.int 5)))) eNil)))))))) (eCall m__law_drawn (eCons (eVar 0) (eCons (eC (.int 1)) (eCons (eC (.int 7)) eNil)))))) (sRet (eOfB (e2 dEq (eOfL (eLst (eCons (eCall m__law_error (eCons (eC (.int 0)) (eCons (eCall m__law_badpattern (eCons (eVar 0) (eCons (eC (.int 2)) eNil))) eNil))) (eCons (eCall m__law_error (eCons (eC (.int 1)) (eCons (eVar 6) eNil))) eNil)))) (eOfL (eLst (eCons (eC (.int 0)) (eCons (eC (.int 1)) eNil))))))))
def q_law_0_4 : DS := (sSeq (sIf (eOr (e2 dNe (eCall m_naive_reachable (eCons (eVar 4) eNil)) (eOfL (fun ρ => ((eToL (eVar 5)) ρ).bind fun ds => lSortT (.list ds)))) (e2 dNe (eCall m_reachable (eCons (eVar 4) eNil)) (eOfL (fun ρ => ((eToL (eVar 5)) ρ).bind fun ds => lSortT (.list ds))))) (sRet (eC (.bool false))) sNext) q_law_0_5)
def q_law_0_3 : DS := (sSeq (sSet 5 (eCall m__law_reached (eCons (eVar 4) eNil))) q_law_0_4)
def q_law_0_2 : DS := (sSeq (sSet 4 (eOfL (e1 asSeq (eVar 1)))) q_law_0_3)
def q_law_0_1 : DS := (sSeq (sFor (e1 asSeq (eVar 1)) (hName 2) p_law_1) q_law_0_2)
theorem b_law_parts : b_law = (sSeq (sSet 1 (eCall m__law_program (eCons (eVar 0) (eCons (eC (.int 10)) eNil)))) q_law_0_1) := rfl

end DL
/-! ## what the mirrors tell -/
namespace DL
open PySem PySem.Spec L2
/-! ### what a def's mirror hands back -/
def outO : SO → Option D
  | .ret d => some d
  | .nx _ => some .none
  | _ => none
theorem run_eq (n : Nat) (g : DS) (ds : List D) : runD n g ds = outO (g (initD n ds)) := by
  unfold runD outO
  cases g (initD n ds) <;> rfl
theorem dIx_l (xs : List D) (i : Int) : dIx (.list xs) (.int i) = atI xs i := rfl
theorem dIx_t (xs : List D) (i : Int) : dIx (.tuple xs) (.int i) = atI xs i := rfl
theorem cLen_l (xs : List D) : cLen [.list xs] = some (.int (xs.length : Nat)) := rfl
theorem cLen_t (xs : List D) : cLen [.tuple xs] = some (.int (xs.length : Nat)) := rfl
theorem asSeq_l (xs : List D) : asSeq (.list xs) = some xs := rfl
theorem asSeq_t (xs : List D) : asSeq (.tuple xs) = some xs := rfl
/-! ### evaluation, by proofs that the kernel need not unfold -/
theorem un {α : Type} {f g : DE → α} (h : ∀ ρ, f ρ = g ρ) (ρ : DE) : f ρ = g ρ := h ρ
theorem bS {α β : Type} (x : α) (f : α → Option β) : (some x).bind f = f x := by
  have : ∀ o : Option α, o = some x → o.bind f = f x := fun o h => by subst h; rfl
  exact this _ rfl
def varOf : Option DV → Option D
  | some (.dat d) => some d
  | _ => none
def ownOf : Option DV → Option (List D)
  | some (.own d) => some d
  | _ => none
section
variable (ρ : DE)
theorem v_var (i : Nat) : eVar i ρ = varOf ρ[i]? := by unfold eVar varOf; cases ρ[i]? with | none => rfl | some x => cases x <;> rfl
theorem v_own (i : Nat) : eOwn i ρ = ownOf ρ[i]? := by unfold eOwn ownOf; cases ρ[i]? with | none => rfl | some x => cases x <;> rfl
theorem v_varOf (d : D) : varOf (some (.dat d)) = some d := rfl
theorem v_ownOf (d : List D) : ownOf (some (.own d)) = some d := rfl
theorem v_c (d : D) : eC d ρ = some d := by cases ρ <;> rfl
theorem v_1 {α : Type} (f : D → Option α) (g : DE → Option D) : e1 f g ρ = (g ρ).bind f := by cases ρ <;> rfl
theorem v_2 {α : Type} (f : D → D → Option α) (g h : DE → Option D) : e2 f g h ρ = (g ρ).bind fun x => (h ρ).bind fun y => f x y := by cases ρ <;> rfl
theorem v_nil : eNil ρ = some [] := by cases ρ <;> rfl
theorem v_cons (g : DE → Option D) (h : DE → Option (List D)) : eCons g h ρ = (g ρ).bind fun x => (h ρ).bind fun xs => some (x :: xs) := by cases ρ <;> rfl
theorem v_call (f : List D → Option D) (g : DE → Option (List D)) : eCall f g ρ = (g ρ).bind f := by cases ρ <;> rfl
theorem v_tup (g : DE → Option (List D)) : eTup g ρ = ((g ρ).bind lineOk).bind fun ds => some (.tuple ds) := by cases ρ <;> rfl
theorem v_lst (g : DE → Option (List D)) : eLst g ρ = (g ρ).bind lineOk := by cases ρ <;> rfl
theorem v_toL (g : DE → Option D) : eToL g ρ = (g ρ).bind asL := by cases ρ <;> rfl
theorem v_ofL (g : DE → Option (List D)) : eOfL g ρ = (g ρ).bind fun ds => some (.list ds) := by cases ρ <;> rfl
theorem v_toB (g : DE → Option D) : eToB g ρ = (g ρ).bind asB := by cases ρ <;> rfl
theorem v_ofB (g : DE → Option Bool) : eOfB g ρ = (g ρ).bind fun b => some (.bool b) := by cases ρ <;> rfl
theorem v_not (g : DE → Option Bool) : eNot g ρ = (g ρ).bind fun b => some (!b) := by cases ρ <;> rfl
theorem v_and (g h : DE → Option Bool) : eAnd g h ρ = (g ρ).bind fun b => if b = true then h ρ else some false := by cases ρ <;> rfl
theorem v_or (g h : DE → Option Bool) : eOr g h ρ = (g ρ).bind fun b => if b = true then some true else h ρ := by cases ρ <;> rfl
theorem v_if {α : Type} (c : DE → Option Bool) (g h : DE → Option α) : eIf c g h ρ = (c ρ).bind fun b => if b = true then g ρ else h ρ := by cases ρ <;> rfl
theorem v_chain (f f' : D → D → Option Bool) (gx gy gz : DE → Option D) : eChain f f' gx gy gz ρ = (gx ρ).bind fun x => (gy ρ).bind fun y => (f x y).bind fun k => if k = true then (gz ρ).bind fun z => f' y z else some false := by cases ρ <;> rfl
theorem v_ixL (g : DE → Option (List D)) (h : DE → Option D) : eIxL g h ρ = (g ρ).bind fun xs => ((h ρ).bind asI).bind fun i => atI xs i := by cases ρ <;> rfl
theorem v_part (g : DE → Option D) : ePart g ρ = ((g ρ).bind asI).bind fun i => some (some i) := by cases ρ <;> rfl
theorem v_tupL (g : DE → Option (List D)) : eTupL g ρ = (g ρ).bind fun ds => some (.tuple ds) := by cases ρ <;> rfl
theorem v_l2 (f : List D → List D → Option (List D)) (g h : DE → Option (List D)) : l2 f g h ρ = (g ρ).bind fun x => (h ρ).bind fun y => f x y := by cases ρ <;> rfl
theorem v_lc (vs : List Nat) (g : DE → Option (List D)) (h : D → DE → Option DE) (tt : DE → Option Bool) (el : DE → Option D) : eLc vs g h tt el ρ = ((g ρ).bind lineOk).bind fun ds => compD h tt el (wipeD ρ vs) ds := by cases ρ <;> rfl
theorem v_yes : eYes ρ = some true := by cases ρ <;> rfl
theorem v_mNil : mNil ρ = some [] := by cases ρ <;> rfl
theorem v_mDat (g : DE → Option D) (h : DE → Option (List DV)) : mDat g h ρ = (g ρ).bind fun d => (h ρ).bind fun xs => some (.dat d :: xs) := by cases ρ <;> rfl
theorem v_mOwn (g : DE → Option (List D)) (h : DE → Option (List DV)) : mOwn g h ρ = (g ρ).bind fun d => (h ρ).bind fun xs => some (.own d :: xs) := by cases ρ <;> rfl
theorem v_divmod (g h : DE → Option D) : eDivmod g h ρ = (g ρ).bind fun x => (h ρ).bind fun y => cDivmod [x, y] := by cases ρ <;> rfl
theorem v_slice_t (g : DE → Option D) (lo hi : DE → Option (Option Int)) {ds : List D} {l u : Option Int} (h1 : g ρ = some (.tuple ds)) (h2 : lo ρ = some l) (h3 : hi ρ = some u) : eSlice g lo hi ρ = some (.tuple (cutD ds l u)) := by unfold eSlice; rw [h1, h2, h3]; rfl
theorem v_slice_l (g : DE → Option D) (lo hi : DE → Option (Option Int)) {ds : List D} {l u : Option Int} (h1 : g ρ = some (.list ds)) (h2 : lo ρ = some l) (h3 : hi ρ = some u) : eSlice g lo hi ρ = some (.list (cutD ds l u)) := by unfold eSlice; rw [h1, h2, h3]; rfl
end
theorem v_asL (d : List D) : asL (.list d) = some d := rfl
theorem v_asT (d : List D) : asT (.tuple d) = some d := rfl
theorem v_asB (d : Bool) : asB (.bool d) = some d := rfl
theorem v_asI (d : Int) : asI (.int d) = some d := rfl
theorem v_add (i j : Int) : dAdd (.int i) (.int j) = some (.int (i + j)) := rfl
theorem v_sub (i j : Int) : dSub (.int i) (.int j) = some (.int (i - j)) := rfl
theorem v_neg (i : Int) : dNeg (.int i) = some (.int (-i)) := rfl
theorem v_lt (i j : Int) : dLt (.int i) (.int j) = some (decide (i < j)) := rfl
theorem v_le (i j : Int) : dLe (.int i) (.int j) = some (decide (i ≤ j)) := rfl
theorem v_gt (i j : Int) : dGt (.int i) (.int j) = some (decide (j < i)) := rfl
theorem v_ge (i j : Int) : dGe (.int i) (.int j) = some (decide (j ≤ i)) := rfl
theorem v_isB (i j : Bool) : dIsB (.bool i) (.bool j) = some (i == j) := rfl
theorem v_notB (i j : Bool) : dNotB (.bool i) (.bool j) = some (!(i == j)) := rfl
theorem v_isN (d : D) : dIsN d .none = some (isNone d) := by cases d <;> rfl
theorem v_notN (d : D) : dNotN d .none = some (!isNone d) := by cases d <;> rfl
theorem v_isNi (i : Int) : isNone (.int i) = false := rfl
theorem v_isNn : isNone .none = true := rfl
theorem dMul_of (i j : Int) : dMul (.int i) (.int j) = if (-(2 ^ 64) < i ∧ i < 2 ^ 64) ∨ (-(2 ^ 64) < j ∧ j < 2 ^ 64) then some (.int (i * j)) else none := rfl
theorem dMul_ok (i j : Int) (h : (-(2 ^ 64) < i ∧ i < 2 ^ 64) ∨ (-(2 ^ 64) < j ∧ j < 2 ^ 64)) : dMul (.int i) (.int j) = some (.int (i * j)) := (dMul_of i j).trans (if_pos h)
theorem dMod_of (i j : Int) : dMod (.int i) (.int j) = if 0 < j then some (.int (i % j)) else none := rfl
theorem dMod_ok (i j : Int) (h : 0 < j) : dMod (.int i) (.int j) = some (.int (i % j)) := (dMod_of i j).trans (if_pos h)
theorem dDiv_of (i j : Int) : dDiv (.int i) (.int j) = if 0 < j ∧ j < 2 ^ 100 then some (.int (i / j)) else none := rfl
theorem dDiv_ok (i j : Int) (h : 0 < j ∧ j < 2 ^ 100) : dDiv (.int i) (.int j) = some (.int (i / j)) := (dDiv_of i j).trans (if_pos h)
theorem few64 (a b : Nat) (h : a ≤ 100000000) : (-(2 ^ 64) < (a : Int) ∧ (a : Int) < 2 ^ 64) ∨ (-(2 ^ 64) < (b : Int) ∧ (b : Int) < 2 ^ 64) := .inl ⟨by omega, by omega⟩
theorem few64r (a b : Nat) (h : b ≤ 100000000) : (-(2 ^ 64) < (a : Int) ∧ (a : Int) < 2 ^ 64) ∨ (-(2 ^ 64) < (b : Int) ∧ (b : Int) < 2 ^ 64) := .inr ⟨by omega, by omega⟩
theorem mulN (a b : Nat) (h : a ≤ 100000000) : dMul (.int (a : Int)) (.int (b : Int)) = some (.int ((a * b : Nat) : Int)) := (dMul_ok _ _ (few64 a b h)).trans (by rw [Int.natCast_mul])
theorem mulN' (a b : Nat) (h : b ≤ 100000000) : dMul (.int (a : Int)) (.int (b : Int)) = some (.int ((a * b : Nat) : Int)) := (dMul_ok _ _ (few64r a b h)).trans (by rw [Int.natCast_mul])
theorem addN (a b : Nat) : dAdd (.int (a : Int)) (.int (b : Int)) = some (.int ((a + b : Nat) : Int)) := (v_add _ _).trans (by rw [Int.natCast_add])
theorem modN (a b : Nat) (h : 0 < b) : dMod (.int (a : Int)) (.int (b : Int)) = some (.int ((a % b : Nat) : Int)) := (dMod_ok _ _ (by omega)).trans (by rw [Int.natCast_emod])
theorem cDivmod_of (i j : Int) : cDivmod [.int i, .int j] = if 0 < j ∧ j < 1073741824 then some (.tuple [.int (i / j), .int (i % j)]) else none := rfl
theorem divmodN (a b : Nat) (h : 0 < b) (h2 : b ≤ 1000000) : cDivmod [.int (a : Int), .int (b : Int)] = some (.tuple [.int ((a / b : Nat) : Int), .int ((a % b : Nat) : Int)]) := ((cDivmod_of _ _).trans (if_pos ⟨by omega, by omega⟩)).trans (by rw [Int.natCast_emod, Int.natCast_ediv])
theorem lineOk_ok {ds : List D} (h : ds.length ≤ 16777216) : lineOk ds = some ds := (show lineOk ds = if ds.length ≤ 16777216 then some ds else none from rfl).trans (if_pos h)
theorem lineOk0 : lineOk [] = some [] := lineOk_ok (Nat.zero_le _)
theorem lineOk1 (a : D) : lineOk [a] = some [a] := lineOk_ok (by show 1 ≤ _; omega)
/-! ### one statement after another -/
theorem sSeq_nx {a b : DS} {ρ ρ' : DE} (h : a ρ = .nx ρ') : sSeq a b ρ = b ρ' := by unfold sSeq; rw [h]
theorem sSeq_ret {a b : DS} {ρ : DE} {d : D} (h : a ρ = .ret d) : sSeq a b ρ = .ret d := by unfold sSeq; rw [h]
theorem sSet_ok {i : Nat} {g : DE → Option D} {ρ : DE} {d : D} (h : g ρ = some d) : sSet i g ρ = .nx (ρ.set i (.dat d)) := by unfold sSet; rw [h]
theorem sOwn_ok {i : Nat} {g : DE → Option (List D)} {ρ : DE} {d : List D} (h : g ρ = some d) : sOwn i g ρ = .nx (ρ.set i (.own d)) := by unfold sOwn; rw [h]
theorem sExpr_ok {g : DE → Option D} {ρ : DE} {d : D} (h : g ρ = some d) : sExpr g ρ = .nx ρ := by unfold sExpr; rw [h]
theorem sRet_ok {g : DE → Option D} {ρ : DE} {d : D} (h : g ρ = some d) : sRet g ρ = .ret d := by unfold sRet; rw [h]
theorem sIf_t {c : DE → Option Bool} {a b : DS} {ρ : DE} (h : c ρ = some true) : sIf c a b ρ = a ρ := by unfold sIf; rw [h]
theorem sIf_f {c : DE → Option Bool} {a b : DS} {ρ : DE} (h : c ρ = some false) : sIf c a b ρ = b ρ := by unfold sIf; rw [h]
theorem sPar_ok {is : List Nat} {g : DE → Option (List DV)} {ρ : DE} {xs : List DV} (h : g ρ = some xs) : sPar is g ρ = .nx (setM is xs ρ) := by unfold sPar; rw [h]
theorem sAsg_ok {f : D → DE → Option DE} {g : DE → Option D} {ρ ρ' : DE} {d : D} (h : g ρ = some d) (h2 : f d ρ = some ρ') : sAsg f g ρ = .nx ρ' := by unfold sAsg; rw [h]; show (match f d ρ with | some ρ' => SO.nx ρ' | none => SO.bad) = _; rw [h2]
theorem sApp_ok {i : Nat} {g : DE → Option D} {ρ : DE} {d : D} {ds : List D} (h : g ρ = some d) (h2 : ρ[i]? = some (.own ds)) (h3 : ds.length < 16777216) : sApp i g ρ = .nx (ρ.set i (.own (ds ++ [d]))) := by
  unfold sApp
  simp only [h, h2, h3, if_true]
theorem sIfN_f {c : DE → Option Bool} {a : DS} {ρ : DE} (h : c ρ = some false) : sIf c a sNext ρ = .nx ρ := by unfold sIf sNext; rw [h]
theorem sFor_ok {g : DE → Option (List D)} {h : D → DE → Option DE} {b : DS} {ρ : DE} {ds : List D} (hg : g ρ = some ds) : sFor g h b ρ = forD h b ds ρ := by unfold sFor; rw [hg]
/-- a loop that runs through, by what holds ahead of each turn -/
theorem for_inv {h : D → DE → Option DE} {b : DS} (I : Nat → DE → Prop) : ∀ {ds : List D} {k : Nat} {ρ : DE}, I k ρ →
    (∀ (i : Nat) d ρ, ds[i]? = some d → I (k + i) ρ → ∃ ρ1 ρ2, h d ρ = some ρ1 ∧ (b ρ1 = .nx ρ2 ∨ b ρ1 = .cnt ρ2) ∧ I (k + i + 1) ρ2) → ∃ ρ', forD h b ds ρ = .nx ρ' ∧ I (k + ds.length) ρ'
  | [], k, ρ, h0, _ => ⟨ρ, rfl, h0⟩
  | d :: ds, k, ρ, h0, hs => by
    obtain ⟨ρ1, ρ2, e1, e2, h2⟩ := hs 0 d ρ rfl h0
    obtain ⟨ρ', e3, h3⟩ := for_inv I (ds := ds) (k := k + 1) (ρ := ρ2) h2 fun i d ρ hd hi => by
      have e : k + 1 + i = k + (i + 1) := by omega
      rw [e] at hi ⊢
      exact hs (i + 1) d ρ (by simpa using hd) hi
    refine ⟨ρ', ?_, ?_⟩
    · unfold forD
      simp only [e1]
      rcases e2 with e2 | e2 <;> simp only [e2] <;> exact e3
    · rw [List.length_cons]
      have e : k + (ds.length + 1) = k + 1 + ds.length := by omega
      rw [e]; exact h3
/-- a while that ends, by a measure -/
theorem while_inv {c : DE → Option Bool} {b : DS} (I : DE → Prop) (μ : DE → Nat) (hs : ∀ ρ, I ρ → c ρ = some false ∨ (c ρ = some true ∧ ∃ ρ2, (b ρ = .nx ρ2 ∨ b ρ = .cnt ρ2) ∧ I ρ2 ∧ μ ρ2 < μ ρ)) :
    ∀ (n : Nat) (ρ : DE), I ρ → μ ρ < n → ∃ ρ', whileD c b n ρ = .nx ρ' ∧ I ρ' ∧ c ρ' = some false
  | 0, ρ, _, hn => absurd hn (Nat.not_lt_zero _)
  | n + 1, ρ, h0, hn => by
    rcases hs ρ h0 with hf | ⟨ht, ρ2, e2, h2, hm⟩
    · refine ⟨ρ, ?_, h0, hf⟩
      unfold whileD
      simp only [hf]
    · obtain ⟨ρ', e3, h3, h4⟩ := while_inv I μ hs n ρ2 h2 (by omega)
      refine ⟨ρ', ?_, h3, h4⟩
      unfold whileD
      simp only [ht]
      rcases e2 with e2 | e2 <;> simp only [e2] <;> exact e3
/-! ### comprehensions -/
theorem comp_map {h : D → DE → Option DE} {tt : DE → Option Bool} {el : DE → Option D} {ρ : DE} (f : D → D) : ∀ {ds : List D}, (∀ d ∈ ds, ∃ ρ1, h d ρ = some ρ1 ∧ tt ρ1 = some true ∧ el ρ1 = some (f d)) → compD h tt el ρ ds = some (ds.map f)
  | [], _ => rfl
  | d :: ds, H => by
    obtain ⟨ρ1, h1, h2, h3⟩ := H d List.mem_cons_self
    have ih := comp_map f (ds := ds) fun d hd => H d (List.mem_cons_of_mem _ hd)
    unfold compD
    simp only [h1, h2, h3, ih, Option.bind_some, if_true, List.map_cons]
theorem comp_filter {h : D → DE → Option DE} {tt : DE → Option Bool} {el : DE → Option D} {ρ : DE} (p : D → Bool) (f : D → D) : ∀ {ds : List D}, (∀ d ∈ ds, ∃ ρ1, h d ρ = some ρ1 ∧ tt ρ1 = some (p d) ∧ (p d = true → el ρ1 = some (f d))) → compD h tt el ρ ds = some ((ds.filter p).map f)
  | [], _ => rfl
  | d :: ds, H => by
    obtain ⟨ρ1, h1, h2, h3⟩ := H d List.mem_cons_self
    have ih := comp_filter p f (ds := ds) fun d hd => H d (List.mem_cons_of_mem _ hd)
    unfold compD
    cases hp : p d with
    | true => simp only [h1, h2, h3 hp, hp, ih, Option.bind_some, if_true, List.filter_cons_of_pos, List.map_cons]
    | false => simp only [h1, h2, hp, ih, Option.bind_some, Bool.false_eq_true, if_false, not_false_eq_true, List.filter_cons_of_neg]
/-- each element by some choice -/
theorem comp_ex {α : Type} {h : D → DE → Option DE} {tt : DE → Option Bool} {el : DE → Option D} {ρ : DE} (P : α → Prop) (f : α → D) : ∀ {ds : List D}, (∀ d ∈ ds, ∃ ρ1 a, h d ρ = some ρ1 ∧ tt ρ1 = some true ∧ el ρ1 = some (f a) ∧ P a) → ∃ as : List α, as.length = ds.length ∧ (∀ a ∈ as, P a) ∧ compD h tt el ρ ds = some (as.map f)
  | [], _ => ⟨[], rfl, fun _ h => (by cases h), rfl⟩
  | d :: ds, H => by
    obtain ⟨ρ1, a, h1, h2, h3, h4⟩ := H d List.mem_cons_self
    obtain ⟨as, e1, e2, e3⟩ := comp_ex P f (ds := ds) fun d hd => H d (List.mem_cons_of_mem _ hd)
    refine ⟨a :: as, by rw [List.length_cons, List.length_cons, e1], fun b hb => ?_, ?_⟩
    · rcases List.mem_cons.mp hb with rfl | hb
      · exact h4
      · exact e2 b hb
    · unfold compD
      simp only [h1, h2, h3, e3, Option.bind_some, if_true, List.map_cons]
/-! ### numbers in lists -/
def nums (p : List Nat) : List D := p.map fun (i : Nat) => PyData.int (i : Int)
def pat (p : List Nat) : D := .tuple (nums p)
def prog (ps : List (List Nat)) : D := .tuple (ps.map pat)
theorem asSeq_pat (p : List Nat) : asSeq (pat p) = some (nums p) := rfl
theorem asSeq_prog (ps : List (List Nat)) : asSeq (prog ps) = some (ps.map pat) := rfl
theorem nums_length (p : List Nat) : (nums p).length = p.length := by unfold nums; rw [List.length_map]
theorem nums_get (p : List Nat) (i : Nat) : (nums p)[i]? = (p[i]?).map fun (x : Nat) => PyData.int (x : Int) := by unfold nums; rw [List.getElem?_map]
theorem rangeL_nums (n : Nat) : rangeL 0 n = nums (List.range n) := by
  unfold rangeL nums
  apply List.map_congr_left
  intro k _
  rw [Int.zero_add]
theorem rangeL_int (n : Nat) : rangeL 0 (Int.toNat (n : Int)) = nums (List.range n) := by rw [Int.toNat_natCast, rangeL_nums]
theorem atI_ok {α : Type} {xs : List α} {i : Nat} {x : α} (h : xs[i]? = some x) : atI xs (i : Int) = some x := atI_nat h
theorem getD_get {p : List Nat} {i : Nat} (h : i < p.length) : p[i]? = some (p.getD i 0) := by
  rw [List.getD_eq_getElem?_getD, List.getElem?_eq_getElem h]; rfl
theorem atI_nums {p : List Nat} {i : Nat} (h : i < p.length) : atI (nums p) (i : Int) = some (.int ((p.getD i 0 : Nat) : Int)) := atI_ok (by rw [nums_get, getD_get h]; rfl)
theorem dIx_pat {p : List Nat} {i : Nat} (h : i < p.length) : dIx (pat p) (.int (i : Int)) = some (.int ((p.getD i 0 : Nat) : Int)) := atI_nums h
theorem mem_nums {p : List Nat} {d : D} (h : d ∈ nums p) : ∃ i ∈ p, d = .int ((i : Nat) : Int) := by
  obtain ⟨i, hi, e⟩ := List.mem_map.mp h
  exact ⟨i, hi, e.symm⟩
theorem asIs_nums (p : List Nat) : asIs (nums p) = some (p.map fun (i : Nat) => (i : Int)) := by
  have : nums p = (p.map fun (i : Nat) => (i : Int)).map PyData.int := by unfold nums; rw [List.map_map]; rfl
  rw [this, asIs_map]
/-! ### shapes -/
theorem sh_all : ∀ {xs : List D}, (∀ d ∈ xs, d.canLay0 = true) → PyData.canLayAll0 xs = true
  | [], _ => by simp [PyData.canLayAll0]
  | x :: xs, h => by
    simp only [PyData.canLayAll0, Bool.and_eq_true]
    exact ⟨h x List.mem_cons_self, sh_all fun d hd => h d (List.mem_cons_of_mem _ hd)⟩
theorem dp_all {k : Nat} : ∀ {xs : List D}, (∀ d ∈ xs, d.depth ≤ k) → PyData.depthAll xs ≤ k
  | [], _ => by simp [PyData.depthAll]
  | x :: xs, h => by
    have h1 := h x List.mem_cons_self
    have h2 := dp_all fun d hd => h d (List.mem_cons_of_mem _ hd)
    simp only [PyData.depthAll]
    omega
/-- plain at depth k -/
def Sh (k : Nat) (d : D) : Prop := d.canLay0 = true ∧ d.depth ≤ k
theorem Sh.int {k : Nat} (i : Int) : Sh k (.int i) := ⟨by simp [PyData.canLay0], by simp [PyData.depth]⟩
theorem Sh.bool {k : Nat} (i : Bool) : Sh k (.bool i) := ⟨by simp [PyData.canLay0], by simp [PyData.depth]⟩
theorem Sh.none {k : Nat} : Sh k .none := ⟨by simp [PyData.canLay0], by simp [PyData.depth]⟩
theorem Sh.list {k : Nat} {xs : List D} (h : ∀ d ∈ xs, Sh k d) : Sh (k + 1) (.list xs) := ⟨by simp only [PyData.canLay0]; exact sh_all fun d hd => (h d hd).1, by simp only [PyData.depth]; have := dp_all fun d hd => (h d hd).2; omega⟩
theorem Sh.tuple {k : Nat} {xs : List D} (h : ∀ d ∈ xs, Sh k d) : Sh (k + 1) (.tuple xs) := ⟨by simp only [PyData.canLay0]; exact sh_all fun d hd => (h d hd).1, by simp only [PyData.depth]; have := dp_all fun d hd => (h d hd).2; omega⟩
theorem Sh.mono {j k : Nat} {d : D} (h : Sh j d) (hk : j ≤ k) : Sh k d := ⟨h.1, Nat.le_trans h.2 hk⟩
theorem Sh.ok {k : Nat} {d : D} (h : Sh k d) (hk : k ≤ 64 := by decide) : SeqAt.shaped d = true := by
  unfold SeqAt.shaped
  rw [h.1, Bool.true_and]
  exact decide_eq_true (Nat.le_trans h.2 hk)
theorem Sh.nums {p : List Nat} : ∀ d ∈ nums p, Sh 0 d := fun d hd => by
  obtain ⟨i, _, rfl⟩ := mem_nums hd
  exact Sh.int _
theorem Sh.pat (p : List Nat) : Sh 1 (pat p) := Sh.tuple Sh.nums
theorem Sh.prog (ps : List (List Nat)) : Sh 2 (prog ps) := Sh.tuple fun d hd => by
  obtain ⟨p, _, rfl⟩ := List.mem_map.mp hd
  exact Sh.pat p
/-! ### == of data -/
theorem eqvAll_nums : ∀ (p q : List Nat), PyData.eqvAll (nums p) (nums q) = decide (p = q)
  | [], [] => by simp [nums, PyData.eqvAll]
  | [], _ :: _ => by simp [nums, PyData.eqvAll]
  | _ :: _, [] => by simp [nums, PyData.eqvAll]
  | a :: p, b :: q => by
    have ih := eqvAll_nums p q
    show (PyData.eqv (.int (a : Int)) (.int (b : Int)) && PyData.eqvAll (nums p) (nums q)) = _
    rw [ih]
    simp only [PyData.eqv]
    by_cases h1 : a = b
    · by_cases h2 : p = q
      · simp [h1, h2]
      · simp [h1, h2]
    · have : ((a : Int) == (b : Int)) = false := by
        apply beq_eq_false_iff_ne.mpr
        omega
      rw [this]
      simp [h1]
theorem eqv_pat (p q : List Nat) : PyData.eqv (pat p) (pat q) = decide (p = q) := by
  unfold pat
  simp only [PyData.eqv]
  exact eqvAll_nums p q
theorem dEq_sh {d e : D} {j k : Nat} (h1 : Sh j d) (h2 : Sh k e) (hj : j ≤ 64 := by decide) (hk : k ≤ 64 := by decide) : dEq d e = some (PyData.eqv d e) := by
  unfold dEq
  rw [h1.ok hj, h2.ok hk]
  rfl
theorem dEq_pat (p q : List Nat) : dEq (pat p) (pat q) = some (decide (p = q)) := by rw [dEq_sh (Sh.pat p) (Sh.pat q), eqv_pat]
theorem dNe_pat (p q : List Nat) : dNe (pat p) (pat q) = some (!decide (p = q)) := by unfold dNe; rw [dEq_pat]; rfl
theorem dEq_int (i j : Int) : dEq (.int i) (.int j) = some (decide (i = j)) := by
  rw [dEq_sh (Sh.int (k := 0) i) (Sh.int (k := 0) j)]
  simp only [PyData.eqv]
  rw [Bool.beq_eq_decide_eq]
theorem dNe_int (i j : Int) : dNe (.int i) (.int j) = some (!decide (i = j)) := by unfold dNe; rw [dEq_int]; rfl
theorem dEq_bool (i j : Bool) : dEq (.bool i) (.bool j) = some (decide (i = j)) := by
  rw [dEq_sh (Sh.bool (k := 0) i) (Sh.bool (k := 0) j)]
  simp only [PyData.eqv]
  rw [Bool.beq_eq_decide_eq]
mutual
theorem eqv_self : ∀ d : D, d.canLay0 = true → PyData.eqv d d = true
  | .none, _ => by simp [PyData.eqv]
  | .bool _, _ => by simp [PyData.eqv]
  | .int _, _ => by simp [PyData.eqv]
  | .str _, _ => by simp [PyData.eqv]
  | .list xs, h => by simp only [PyData.eqv]; exact eqvAll_self xs (by simpa [PyData.canLay0] using h)
  | .tuple xs, h => by simp only [PyData.eqv]; exact eqvAll_self xs (by simpa [PyData.canLay0] using h)
  | .dict _, h => by simp [PyData.canLay0] at h
theorem eqvAll_self : ∀ ds : List D, PyData.canLayAll0 ds = true → PyData.eqvAll ds ds = true
  | [], _ => by simp [PyData.eqvAll]
  | d :: ds, h => by
    simp only [PyData.canLayAll0, Bool.and_eq_true] at h
    simp only [PyData.eqvAll, Bool.and_eq_true]
    exact ⟨eqv_self d h.1, eqvAll_self ds h.2⟩
end
theorem dEq_self {d : D} {k : Nat} (h : Sh k d) (hk : k ≤ 64 := by decide) : dEq d d = some true := by rw [dEq_sh h h hk hk, eqv_self d h.1]
theorem dNe_self {d : D} {k : Nat} (h : Sh k d) (hk : k ≤ 64 := by decide) : dNe d d = some false := by unfold dNe; rw [dEq_self h hk]; rfl
end DL

namespace DL
open PySem PySem.Spec L2
/-! ### what is drawn -/
abbrev script (ns : List Int) : D := .list (ns.map PyData.int)
theorem shI {ns : List Int} : ∀ d ∈ ns.map PyData.int, Sh 0 d := fun d hd => by
  obtain ⟨i, _, rfl⟩ := List.mem_map.mp hd
  exact Sh.int _
theorem shNil {k : Nat} : ∀ d ∈ ([] : List D), Sh k d := fun d hd => by cases hd
theorem dNe_nil (ns : List Int) : dNe (script ns) (.list []) = some (!ns.isEmpty) := by
  unfold dNe
  rw [dEq_sh (Sh.list shI) (Sh.list (k := 0) shNil)]
  cases ns with
  | nil => rfl
  | cons x xs => simp [PyData.eqv, PyData.eqvAll]
theorem atI_mod {ns : List Int} (h : ns ≠ []) (k : Int) : ∃ x : Int, atI (ns.map PyData.int) (k % (ns.length : Int)) = some (.int x) := by
  have h0 : 0 < ns.length := List.length_pos_iff.mpr h
  have h1 : 0 ≤ k % (ns.length : Int) := Int.emod_nonneg _ (by omega)
  have h2 : k % (ns.length : Int) < (ns.length : Int) := Int.emod_lt_of_pos _ (by omega)
  obtain ⟨j, hj⟩ : ∃ j : Nat, k % (ns.length : Int) = (j : Int) := ⟨(k % (ns.length : Int)).toNat, (Int.toNat_of_nonneg h1).symm⟩
  rw [hj]
  have hjl : j < ns.length := by omega
  exact ⟨ns[j], atI_ok (by rw [List.getElem?_map, List.getElem?_eq_getElem hjl]; rfl)⟩
def wPick : DS := whileD (eAnd (e2 dGt (eVar 4) (eC (.int 0))) (e2 dGt (eVar 5) (eC (.int 0)))) (sPar [4, 5] (mDat (e2 dDiv (eVar 4) (eC (.int 840))) (mDat (e2 dSub (eVar 5) (eC (.int 1))) mNil))) FUEL
def meas (i : Nat) (ρ : DE) : Nat := match ρ[i]? with
  | some (DV.dat (.int q)) => q.toNat
  | _ => 0
theorem wPick_ok (a b c d g : DV) (r q : Int) (hq : q < 99999) : ∃ r' q' : Int, wPick [a, b, c, d, .dat (.int r), .dat (.int q), g] = .nx [a, b, c, d, .dat (.int r'), .dat (.int q'), g] := by
  obtain ⟨ρ', h1, ⟨r', q', rfl⟩, _⟩ := while_inv (c := eAnd (e2 dGt (eVar 4) (eC (.int 0))) (e2 dGt (eVar 5) (eC (.int 0)))) (b := sPar [4, 5] (mDat (e2 dDiv (eVar 4) (eC (.int 840))) (mDat (e2 dSub (eVar 5) (eC (.int 1))) mNil)))
    (fun ρ => ∃ r q : Int, ρ = [a, b, c, d, .dat (.int r), .dat (.int q), g]) (meas 5)
    (fun ρ ⟨r, q, e⟩ => by
      subst e
      simp only [v_var, v_own, v_varOf, v_ownOf, v_c, v_1, v_2, v_nil, v_cons, v_call, v_tup, v_lst, v_toL, v_ofL, v_toB, v_ofB, v_not, v_and, v_or, v_if, v_chain, v_ixL, v_part, v_tupL, v_l2, v_yes, v_mNil, v_mDat, v_mOwn, v_divmod, v_asL, v_asT, v_asB, v_asI, v_add, v_sub, v_neg, v_lt, v_le, v_gt, v_ge, v_isB, v_notB, v_isN, v_notN, v_isNi, v_isNn, bS, lineOk0, dIx_l, dIx_t, cLen_l, cLen_t, asSeq_l, asSeq_t, wipeD, setM, List.getElem?_cons_zero, List.getElem?_cons_succ, List.set_cons_zero, List.set_cons_succ, if_true, if_false, ite_true, ite_false, Bool.false_eq_true, Bool.not_true, Bool.not_false, sPar]
      by_cases h1 : 0 < r
      · by_cases h2 : 0 < q
        · right
          simp only [h1, h2, decide_true, if_true, true_and]
          refine ⟨_, .inl rfl, ⟨_, _, rfl⟩, ?_⟩
          show (q - 1).toNat < q.toNat
          omega
        · left; simp [h1, h2]
      · left; simp [h1]) FUEL [a, b, c, d, .dat (.int r), .dat (.int q), g] ⟨r, q, rfl⟩ (by show q.toNat < 100000; omega)
  exact ⟨r', q', h1⟩
theorem isN {m : Int} {n : Nat} (h1 : 0 ≤ m) (h2 : m < n) : ∃ r : Nat, r < n ∧ m = (r : Int) := ⟨m.toNat, by omega, by omega⟩
theorem pick_ok (ns : List Int) (hl : ns.length ≤ 63) (k many : Nat) (hk : k < 99999) (hm : 0 < many) : ∃ r : Nat, r < many ∧ m__law_pick [script ns, .int (k : Int), .int (many : Int)] = some (.int (r : Int)) := by
  have hm' : (0 : Int) < (many : Int) := by omega
  unfold m__law_pick
  rw [run_eq]
  show ∃ r : Nat, r < many ∧ outO (b__law_pick [.dat (script ns), .dat (.int (k : Int)), .dat (.int (many : Int)), .bot, .bot, .bot, .bot]) = some (.int (r : Int))
  unfold b__law_pick
  have hc : ∃ c : Int, (eIf (e2 dNe (eVar 0) (eOfL (eLst eNil))) (e2 dIx (eVar 0) (e2 dMod (eVar 1) (eCall cLen (eCons (eVar 0) eNil)))) (eC (.int 0))) [.dat (script ns), .dat (.int (k : Int)), .dat (.int (many : Int)), .bot, .bot, .bot, .bot] = some (.int c) := by
    cases ns with
    | nil =>
      simp only [v_var, v_own, v_varOf, v_ownOf, v_c, v_1, v_2, v_nil, v_cons, v_call, v_tup, v_lst, v_toL, v_ofL, v_toB, v_ofB, v_not, v_and, v_or, v_if, v_chain, v_ixL, v_part, v_tupL, v_l2, v_yes, v_mNil, v_mDat, v_mOwn, v_divmod, v_asL, v_asT, v_asB, v_asI, v_add, v_sub, v_neg, v_lt, v_le, v_gt, v_ge, v_isB, v_notB, v_isN, v_notN, v_isNi, v_isNn, bS, lineOk0, dIx_l, dIx_t, cLen_l, cLen_t, asSeq_l, asSeq_t, wipeD, setM, List.getElem?_cons_zero, List.getElem?_cons_succ, List.set_cons_zero, List.set_cons_succ, if_true, if_false, ite_true, ite_false, Bool.false_eq_true, Bool.not_true, Bool.not_false, dNe_nil, List.isEmpty_nil]
      exact ⟨0, rfl⟩
    | cons x xs =>
      obtain ⟨c, hc⟩ := atI_mod (ns := x :: xs) (fun z => nomatch z) (k : Int)
      have : (0 : Int) < (((x :: xs).length : Nat) : Int) := by simp only [List.length_cons]; omega
      simp only [v_var, v_own, v_varOf, v_ownOf, v_c, v_1, v_2, v_nil, v_cons, v_call, v_tup, v_lst, v_toL, v_ofL, v_toB, v_ofB, v_not, v_and, v_or, v_if, v_chain, v_ixL, v_part, v_tupL, v_l2, v_yes, v_mNil, v_mDat, v_mOwn, v_divmod, v_asL, v_asT, v_asB, v_asI, v_add, v_sub, v_neg, v_lt, v_le, v_gt, v_ge, v_isB, v_notB, v_isN, v_notN, v_isNi, v_isNn, bS, lineOk0, dIx_l, dIx_t, cLen_l, cLen_t, asSeq_l, asSeq_t, wipeD, setM, List.getElem?_cons_zero, List.getElem?_cons_succ, List.set_cons_zero, List.set_cons_succ, if_true, if_false, ite_true, ite_false, Bool.false_eq_true, Bool.not_true, Bool.not_false, dNe_nil, List.isEmpty_cons, dMod_ok _ _ this, List.length_map]
      exact ⟨c, hc⟩
  obtain ⟨c, hc⟩ := hc
  rw [sSeq_nx (sSet_ok hc)]
  have hpow : dPow (.int 10) (.int 18) = some (.int 1000000000000000000) := by rfl
  have hmx : ∃ m : Nat, 0 < m ∧ m < 64 ∧ (if (1 : Int) > ((ns.length : Nat) : Int) then (1 : Int) else ((ns.length : Nat) : Int)) = (m : Int) := by
    split
    · exact ⟨1, by omega, by omega, rfl⟩
    · exact ⟨ns.length, by omega, by omega, rfl⟩
  obtain ⟨m, hm0, hm1, hm2⟩ := hmx
  have hm0' : (0 : Int) < (m : Int) ∧ (m : Int) < 2 ^ 100 := by omega
  have hp : mDat (e2 dDiv (eVar 3) (e2 dPow (eC (.int 10)) (eC (.int 18)))) (mDat (e2 dDiv (eVar 1) (eCall cMax2 (eCons (eCall cLen (eCons (eVar 0) eNil)) (eCons (eC (.int 1)) eNil)))) mNil) [.dat (script ns), .dat (.int (k : Int)), .dat (.int (many : Int)), .dat (.int c), .bot, .bot, .bot] = some [.dat (.int (c / 1000000000000000000)), .dat (.int (k / m))] := by
    have e18 : ((0 : Int) < 1000000000000000000 ∧ (1000000000000000000 : Int) < 2 ^ 100) := by omega
    simp only [eVar, eC, e1, e2, eCons, eNil, eCall, mNil, mDat, cLen, cMax2, hpow, dDiv, Option.bind_some, List.getElem?_cons_zero, List.getElem?_cons_succ, List.length_map, hm2, hm0', e18, and_self, if_true]
  simp only [List.set_cons_succ, List.set_cons_zero]
  rw [sSeq_nx (sPar_ok hp)]
  obtain ⟨r', q', hw⟩ := wPick_ok (.dat (script ns)) (.dat (.int (k : Int))) (.dat (.int (many : Int))) (.dat (.int c)) .bot (c / 1000000000000000000) (k / m) (by
    have : (k : Int) / (m : Int) ≤ (k : Int) := Int.ediv_le_self _ (by omega)
    omega)
  unfold wPick at hw
  simp only [setM, List.set_cons_succ, List.set_cons_zero]
  rw [sSeq_nx hw]
  have key : ∀ x : Int, ∃ r : Nat, r < many ∧ x % (many : Int) = (r : Int) := fun x => isN (Int.emod_nonneg _ (by omega)) (Int.emod_lt_of_pos _ hm')
  by_cases hr : 0 < r'
  · have h1 : sIf (e2 dGt (eVar 4) (eC (.int 0))) (sRet (e2 dMod (e2 dMod (eVar 4) (eC (.int 840))) (eVar 2))) sNext [.dat (script ns), .dat (.int (k : Int)), .dat (.int (many : Int)), .dat (.int c), .dat (.int r'), .dat (.int q'), .bot] = .ret (.int (r' % 840 % many)) := by
      simp only [v_var, v_own, v_varOf, v_ownOf, v_c, v_1, v_2, v_nil, v_cons, v_call, v_tup, v_lst, v_toL, v_ofL, v_toB, v_ofB, v_not, v_and, v_or, v_if, v_chain, v_ixL, v_part, v_tupL, v_l2, v_yes, v_mNil, v_mDat, v_mOwn, v_divmod, v_asL, v_asT, v_asB, v_asI, v_add, v_sub, v_neg, v_lt, v_le, v_gt, v_ge, v_isB, v_notB, v_isN, v_notN, v_isNi, v_isNn, bS, lineOk0, dIx_l, dIx_t, cLen_l, cLen_t, asSeq_l, asSeq_t, wipeD, setM, List.getElem?_cons_zero, List.getElem?_cons_succ, List.set_cons_zero, List.set_cons_succ, if_true, if_false, ite_true, ite_false, Bool.false_eq_true, Bool.not_true, Bool.not_false, sIf, sRet, hr, decide_true, dMod_ok _ _ hm', dMod_ok _ 840 (by omega)]
    rw [sSeq_ret h1]
    obtain ⟨r, h2, h3⟩ := key (r' % 840)
    exact ⟨r, h2, by rw [h3]; rfl⟩
  · have h1 : sIf (e2 dGt (eVar 4) (eC (.int 0))) (sRet (e2 dMod (e2 dMod (eVar 4) (eC (.int 840))) (eVar 2))) sNext [.dat (script ns), .dat (.int (k : Int)), .dat (.int (many : Int)), .dat (.int c), .dat (.int r'), .dat (.int q'), .bot] = .nx [.dat (script ns), .dat (.int (k : Int)), .dat (.int (many : Int)), .dat (.int c), .dat (.int r'), .dat (.int q'), .bot] := by
      simp only [v_var, v_own, v_varOf, v_ownOf, v_c, v_1, v_2, v_nil, v_cons, v_call, v_tup, v_lst, v_toL, v_ofL, v_toB, v_ofB, v_not, v_and, v_or, v_if, v_chain, v_ixL, v_part, v_tupL, v_l2, v_yes, v_mNil, v_mDat, v_mOwn, v_divmod, v_asL, v_asT, v_asB, v_asI, v_add, v_sub, v_neg, v_lt, v_le, v_gt, v_ge, v_isB, v_notB, v_isN, v_notN, v_isNi, v_isNn, bS, lineOk0, dIx_l, dIx_t, cLen_l, cLen_t, asSeq_l, asSeq_t, wipeD, setM, List.getElem?_cons_zero, List.getElem?_cons_succ, List.set_cons_zero, List.set_cons_succ, if_true, if_false, ite_true, ite_false, Bool.false_eq_true, Bool.not_true, Bool.not_false, sIf, sNext, hr, decide_false]
    rw [sSeq_nx h1]
    have b0 : ∀ x : Int, (-(2 ^ 64) < x ∧ x < 2 ^ 64) ∨ (-(2 ^ 64) < (31 : Int) ∧ (31 : Int) < 2 ^ 64) := fun x => .inr (by omega)
    have b1 : ∀ x : Int, (-(2 ^ 64) < (6151 : Int) ∧ (6151 : Int) < 2 ^ 64) ∨ (-(2 ^ 64) < x ∧ x < 2 ^ 64) := fun x => .inl (by omega)
    have b2 : ∀ x : Int, (-(2 ^ 64) < x ∧ x < 2 ^ 64) ∨ (-(2 ^ 64) < (40692 : Int) ∧ (40692 : Int) < 2 ^ 64) := fun x => .inr (by omega)
    have b3 : (0 : Int) < 2147483399 := by omega
    have b4 : (0 : Int) < 2147483629 := by omega
    have b5 : ((0 : Int) < 31 ∧ (31 : Int) < 2 ^ 100) := by omega
    have hg : (e2 dMod (e2 dMul (e2 dAdd (e2 dMul (eVar 3) (eC (.int 31))) (e2 dMul (eC (.int 6151)) (e2 dAdd (eVar 1) (eC (.int 1))))) (eC (.int 40692))) (eC (.int 2147483399))) [.dat (script ns), .dat (.int (k : Int)), .dat (.int (many : Int)), .dat (.int c), .dat (.int r'), .dat (.int q'), .bot] = some (.int ((c * 31 + 6151 * (k + 1)) * 40692 % 2147483399)) := by
      simp only [eVar, eC, e2, dAdd, dMul, dMod, Option.bind_some, List.getElem?_cons_zero, List.getElem?_cons_succ, b0, b1, b2, b3, if_true]
    rw [sSeq_nx (sSet_ok hg)]
    generalize hz : (c * 31 + 6151 * ((k : Int) + 1)) * 40692 % 2147483399 = z
    have hz0 : 0 ≤ z := by rw [← hz]; exact Int.emod_nonneg _ (by omega)
    have hz1 : z < 2147483399 := by rw [← hz]; exact Int.emod_lt_of_pos _ (by omega)
    have b6 : (-(2 ^ 64) < z ∧ z < 2 ^ 64) ∨ (-(2 ^ 64) < z ∧ z < 2 ^ 64) := .inl (by omega)
    obtain ⟨r, h2, h3⟩ := key ((z * z + z / 31) % 2147483629)
    refine ⟨r, h2, ?_⟩
    rw [← h3]
    simp only [List.set_cons_succ, List.set_cons_zero, sRet, eVar, eC, e2, dAdd, dMul, dMod, dDiv, Option.bind_some, List.getElem?_cons_zero, List.getElem?_cons_succ, b4, b5, b6, hm', if_true, outO, and_self]
end DL

namespace DL
open PySem PySem.Spec L2
/-! ### patterns -/
structure isP (n : Nat) (p : List Nat) : Prop where
  len : p.length = n
  lt : ∀ x ∈ p, x < n
  nd : p.Nodup
def tups (n : Nat) : Nat → List (List Nat)
  | 0 => [[]]
  | k + 1 => (List.range n).flatMap fun x => (tups n k).map fun q => x :: q
def nodB : List Nat → Bool
  | [] => true
  | x :: xs => xs.all (fun y => !Nat.beq x y) && nodB xs
def pats (n : Nat) : List (List Nat) := (tups n n).filter nodB
theorem mem_tups (n : Nat) : ∀ {p : List Nat}, (∀ x ∈ p, x < n) → p ∈ tups n p.length
  | [], _ => List.mem_cons_self
  | x :: p, h => by
    refine List.mem_flatMap.mpr ⟨x, List.mem_range.mpr (h x List.mem_cons_self), List.mem_map.mpr ⟨p, mem_tups n fun y hy => h y (List.mem_cons_of_mem _ hy), rfl⟩⟩
theorem nodB_of : ∀ {p : List Nat}, p.Nodup → nodB p = true
  | [], _ => rfl
  | x :: p, h => by
    have h1 := List.nodup_cons.mp h
    unfold nodB
    rw [nodB_of h1.2, Bool.and_true, List.all_eq_true]
    intro y hy
    have hne : x ≠ y := fun e => h1.1 (e ▸ hy)
    have : Nat.beq x y = false := by
      cases hb : Nat.beq x y with
      | false => rfl
      | true => exact absurd (Nat.eq_of_beq_eq_true hb) hne
    rw [this]; rfl
theorem isP.mem {n : Nat} {p : List Nat} (h : isP n p) : p ∈ pats n := by
  have := mem_tups n h.lt
  rw [h.len] at this
  exact List.mem_filter.mpr ⟨this, nodB_of h.nd⟩
def allP : List (Nat × List Nat) := (pats 3).map (fun p => (3, p)) ++ (pats 4).map (fun p => (4, p)) ++ (pats 5).map (fun p => (5, p))
/-- a size that the program takes -/
def Sz (n : Nat) : Prop := n = 3 ∨ n = 4 ∨ n = 5
theorem mem_allP {n : Nat} (hn : Sz n) {p : List Nat} (h : isP n p) : (n, p) ∈ allP := by
  unfold allP
  have := h.mem
  rcases hn with rfl | rfl | rfl
  · exact List.mem_append_left _ (List.mem_append_left _ (List.mem_map.mpr ⟨p, this, rfl⟩))
  · exact List.mem_append_left _ (List.mem_append_right _ (List.mem_map.mpr ⟨p, this, rfl⟩))
  · exact List.mem_append_right _ (List.mem_map.mpr ⟨p, this, rfl⟩)
/-- what holds at all patterns, by looking -/
theorem look {f : Nat → List Nat → Bool} (h : allP.all (fun x => f x.1 x.2) = true) {n : Nat} (hn : Sz n) {p : List Nat} (hp : isP n p) : f n p = true :=
  List.all_eq_true.mp h _ (mem_allP hn hp)
/-! ### equality of data, as a test -/
mutual
def sameD : D → D → Bool
  | .none, .none => true
  | .bool a, .bool b => a == b
  | .int a, .int b => decide (a = b)
  | .str a, .str b => a == b
  | .list a, .list b => sameDs a b
  | .tuple a, .tuple b => sameDs a b
  | _, _ => false
def sameDs : List D → List D → Bool
  | [], [] => true
  | a :: as, b :: bs => sameD a b && sameDs as bs
  | _, _ => false
end
mutual
theorem sameD_eq : ∀ a b : D, sameD a b = true → a = b
  | .none, b, h => by cases b <;> first | rfl | (simp [sameD] at h)
  | .bool a, b, h => by cases b <;> first | (simp [sameD] at h; subst h; rfl) | (simp [sameD] at h)
  | .int a, b, h => by cases b <;> first | (simp [sameD] at h; subst h; rfl) | (simp [sameD] at h)
  | .str a, b, h => by cases b <;> first | (simp [sameD] at h; subst h; rfl) | (simp [sameD] at h)
  | .list a, b, h => by
    cases b <;> first | (simp only [sameD] at h; rw [sameDs_eq a _ h]) | (simp [sameD] at h)
  | .tuple a, b, h => by
    cases b <;> first | (simp only [sameD] at h; rw [sameDs_eq a _ h]) | (simp [sameD] at h)
  | .dict a, b, h => by cases b <;> simp [sameD] at h
theorem sameDs_eq : ∀ a b : List D, sameDs a b = true → a = b
  | [], [], _ => rfl
  | [], _ :: _, h => by simp [sameDs] at h
  | _ :: _, [], h => by simp [sameDs] at h
  | a :: as, b :: bs, h => by
    simp only [sameDs, Bool.and_eq_true] at h
    rw [sameD_eq a b h.1, sameDs_eq as bs h.2]
end
def sameO (o : Option D) (d : D) : Bool := match o with
  | some e => sameD e d
  | none => false
theorem sameO_eq {o : Option D} {d : D} (h : sameO o d = true) : o = some d := by
  cases o with
  | none => cases h
  | some e => rw [sameD_eq e d h]
def sameN : List Nat → List Nat → Bool
  | [], [] => true
  | a :: as, b :: bs => Nat.beq a b && sameN as bs
  | _, _ => false
theorem sameN_eq : ∀ {a b : List Nat}, sameN a b = true → a = b
  | [], [], _ => rfl
  | [], _ :: _, h => by simp [sameN] at h
  | _ :: _, [], h => by simp [sameN] at h
  | a :: as, b :: bs, h => by
    simp only [sameN, Bool.and_eq_true] at h
    rw [Nat.eq_of_beq_eq_true h.1, sameN_eq h.2]
/-! ### patterns put together -/
def comb (p q : List Nat) : List Nat := p.map fun x => q.getD x 0
def idp (n : Nat) : List Nat := List.range n
def inv (p : List Nat) : List Nat := (List.range p.length).map fun x => (p.findIdx? fun y => Nat.beq y x).getD 0
theorem getD_lt {n : Nat} {p : List Nat} (h : isP n p) {x : Nat} (hx : x < n) : p.getD x 0 < n := by
  have : x < p.length := by rw [h.len]; exact hx
  rw [List.getD_eq_getElem?_getD, List.getElem?_eq_getElem this]
  exact h.lt _ (List.getElem_mem this)
theorem getD_inj {n : Nat} {p : List Nat} (h : isP n p) {x y : Nat} (hx : x < n) (hy : y < n) (e : p.getD x 0 = p.getD y 0) : x = y := by
  have h1 : x < p.length := by rw [h.len]; exact hx
  have h2 : y < p.length := by rw [h.len]; exact hy
  rw [List.getD_eq_getElem?_getD, List.getD_eq_getElem?_getD, List.getElem?_eq_getElem h1, List.getElem?_eq_getElem h2] at e
  exact (List.getElem_inj h.nd).mp e
theorem getD_map {f : Nat → Nat} {p : List Nat} {x : Nat} (h : x < p.length) : (p.map f).getD x 0 = f (p.getD x 0) := by
  rw [List.getD_eq_getElem?_getD, List.getD_eq_getElem?_getD, List.getElem?_map, List.getElem?_eq_getElem h]; rfl
theorem comb_len (p q : List Nat) : (comb p q).length = p.length := by unfold comb; rw [List.length_map]
theorem comb_get {p : List Nat} (q : List Nat) {x : Nat} (h : x < p.length) : (comb p q).getD x 0 = q.getD (p.getD x 0) 0 := getD_map (f := fun x => q.getD x 0) h
theorem comb_P {n : Nat} {p q : List Nat} (hp : isP n p) (hq : isP n q) : isP n (comb p q) := by
  refine ⟨by rw [comb_len, hp.len], fun x hx => ?_, ?_⟩
  · obtain ⟨y, hy, rfl⟩ := List.mem_map.mp hx
    exact getD_lt hq (hp.lt y hy)
  · unfold comb
    refine List.pairwise_map.mpr ?_
    have : ∀ {l : List Nat}, (∀ x ∈ l, x < n) → l.Nodup → List.Pairwise (fun a b => q.getD a 0 ≠ q.getD b 0) l := by
      intro l
      induction l with
      | nil => intro _ _; exact List.Pairwise.nil
      | cons a l ih =>
        intro hl hn
        have hn' := List.nodup_cons.mp hn
        refine List.Pairwise.cons (fun b hb e => hn'.1 ?_) (ih (fun x hx => hl x (List.mem_cons_of_mem _ hx)) hn'.2)
        have := getD_inj hq (hl a List.mem_cons_self) (hl b (List.mem_cons_of_mem _ hb)) e
        rw [this]; exact hb
    exact this hp.lt hp.nd
theorem comb_assoc {n : Nat} {p q r : List Nat} (hp : isP n p) (hq : q.length = n) : comb (comb p q) r = comb p (comb q r) := by
  unfold comb
  rw [List.map_map]
  refine List.map_congr_left fun x hx => ?_
  exact (getD_map (f := fun x => r.getD x 0) (by rw [hq]; exact hp.lt x hx)).symm
theorem ext_getD {p q : List Nat} (hl : p.length = q.length) (h : ∀ x, x < p.length → p.getD x 0 = q.getD x 0) : p = q := by
  refine List.ext_getElem hl fun i h1 h2 => ?_
  have := h i h1
  rw [List.getD_eq_getElem?_getD, List.getD_eq_getElem?_getD, List.getElem?_eq_getElem h1, List.getElem?_eq_getElem h2] at this
  exact this
theorem idp_get {n x : Nat} (h : x < n) : (idp n).getD x 0 = x := by
  unfold idp
  rw [List.getD_eq_getElem?_getD, List.getElem?_range h]; rfl
theorem idp_len (n : Nat) : (idp n).length = n := by unfold idp; rw [List.length_range]
theorem idp_P (n : Nat) : isP n (idp n) := ⟨idp_len n, fun x hx => List.mem_range.mp hx, List.nodup_range⟩
theorem comb_id {n : Nat} {p : List Nat} (hp : isP n p) : comb p (idp n) = p := by
  unfold comb
  conv => rhs; rw [← List.map_id p]
  exact List.map_congr_left fun x hx => idp_get (hp.lt x hx)
theorem id_comb {n : Nat} {p : List Nat} (hp : p.length = n) : comb (idp n) p = p := by
  refine ext_getD (by rw [comb_len, idp_len, hp]) fun x hx => ?_
  rw [comb_len, idp_len] at hx
  rw [comb_get p (by rw [idp_len]; exact hx), idp_get hx]
def nats (n : Nat) : List Nat := List.range n
theorem inv_all : allP.all (fun x => decide ((inv x.2).length = x.1) && (inv x.2).all (fun y => Nat.blt y x.1) && nodB (inv x.2) && sameN (comb x.2 (inv x.2)) (idp x.1) && sameN (comb (inv x.2) x.2) (idp x.1) && sameN (inv (inv x.2)) x.2) = true := by decide +kernel
theorem nodB_nd : ∀ {p : List Nat}, nodB p = true → p.Nodup
  | [], _ => List.nodup_nil
  | x :: p, h => by
    unfold nodB at h
    rw [Bool.and_eq_true, List.all_eq_true] at h
    refine List.nodup_cons.mpr ⟨fun hx => ?_, nodB_nd h.2⟩
    have := h.1 x hx
    rw [Nat.beq_refl] at this
    cases this
theorem inv_facts {n : Nat} (hn : Sz n) {p : List Nat} (hp : isP n p) : isP n (inv p) ∧ comb p (inv p) = idp n ∧ comb (inv p) p = idp n ∧ inv (inv p) = p := by
  have h := look (f := fun n p => decide ((inv p).length = n) && (inv p).all (fun y => Nat.blt y n) && nodB (inv p) && sameN (comb p (inv p)) (idp n) && sameN (comb (inv p) p) (idp n) && sameN (inv (inv p)) p) inv_all hn hp
  simp only [Bool.and_eq_true, decide_eq_true_eq, List.all_eq_true] at h
  obtain ⟨⟨⟨⟨⟨h1, h2⟩, h3⟩, h4⟩, h5⟩, h6⟩ := h
  exact ⟨⟨h1, fun x hx => by have := h2 x hx; exact Nat.le_of_ble_eq_true this, nodB_nd h3⟩, sameN_eq h4, sameN_eq h5, sameN_eq h6⟩
end DL

namespace DL
open PySem PySem.Spec L2
/-! ### what the program tells of patterns -/
theorem is_pattern_ok {n : Nat} (hn : Sz n) {p : List Nat} (hp : isP n p) : m_is_pattern [pat p] = some (.bool true) :=
  sameO_eq (look (f := fun _ p => sameO (m_is_pattern [pat p]) (.bool true)) (by decide +kernel) hn hp)
theorem check_pattern_ok {n : Nat} (hn : Sz n) {p : List Nat} (hp : isP n p) : m_check_pattern [pat p] = some .none :=
  sameO_eq (look (f := fun _ p => sameO (m_check_pattern [pat p]) .none) (by decide +kernel) hn hp)
theorem find_reversed_ok {n : Nat} (hn : Sz n) {p : List Nat} (hp : isP n p) : m_find_reversed [pat p] = some (pat (inv p)) :=
  sameO_eq (look (f := fun _ p => sameO (m_find_reversed [pat p]) (pat (inv p))) (by decide +kernel) hn hp)
theorem reversed_pattern_ok {n : Nat} (hn : Sz n) {p : List Nat} (hp : isP n p) : m_reversed_pattern [pat p] = some (pat (inv p)) :=
  sameO_eq (look (f := fun _ p => sameO (m_reversed_pattern [pat p]) (pat (inv p))) (by decide +kernel) hn hp)
def pw (p : List Nat) : Nat → List Nat
  | 0 => idp p.length
  | k + 1 => comb (pw p k) p
def ordN (p : List Nat) : Nat := (List.range 6).findIdx (fun k => sameN (pw p (k + 1)) (idp p.length)) + 1
theorem find_order_ok {n : Nat} (hn : Sz n) {p : List Nat} (hp : isP n p) : m_find_order [pat p] = some (.int (ordN p : Nat)) :=
  sameO_eq (look (f := fun _ p => sameO (m_find_order [pat p]) (.int (ordN p : Nat))) (by decide +kernel) hn hp)
theorem order_ok {n : Nat} (hn : Sz n) {p : List Nat} (hp : isP n p) : m_order [pat p] = some (.int (ordN p : Nat)) :=
  sameO_eq (look (f := fun _ p => sameO (m_order [pat p]) (.int (ordN p : Nat))) (by decide +kernel) hn hp)
theorem ord_facts {n : Nat} (hn : Sz n) {p : List Nat} (hp : isP n p) : 1 ≤ ordN p ∧ ordN p ≤ 6 ∧ pw p (ordN p) = idp n := by
  have h := look (f := fun n p => Nat.ble 1 (ordN p) && Nat.ble (ordN p) 6 && sameN (pw p (ordN p)) (idp n)) (by decide +kernel) hn hp
  simp only [Bool.and_eq_true] at h
  exact ⟨Nat.le_of_ble_eq_true h.1.1, Nat.le_of_ble_eq_true h.1.2, sameN_eq h.2⟩
theorem ord_least {n : Nat} (hn : Sz n) {p : List Nat} (hp : isP n p) {k : Nat} (h0 : 0 < k) (hk : k < ordN p) : pw p k ≠ idp n := by
  have h := look (f := fun n p => (List.range (ordN p)).all fun k => Nat.beq k 0 || !sameN (pw p k) (idp n)) (by decide +kernel) hn hp
  have h1 := List.all_eq_true.mp h k (List.mem_range.mpr hk)
  intro e
  rw [e] at h1
  have h2 : sameN (idp n) (idp n) = true := by
    rcases hn with rfl | rfl | rfl <;> decide
  have h3 : Nat.beq k 0 = false := by
    cases k with
    | zero => omega
    | succ k => rfl
  rw [h2, h3] at h1
  cases h1
theorem pw_P {n : Nat} {p : List Nat} (hp : isP n p) : ∀ k, isP n (pw p k)
  | 0 => by unfold pw; rw [hp.len]; exact idp_P n
  | k + 1 => comb_P (pw_P hp k) hp
end DL

namespace DL
open PySem PySem.Spec L2
/-! ### a comprehension over a list of numbers, by stepping -/
theorem nums_map (p : List Nat) (f : Nat → Nat) : nums (p.map f) = (nums p).map fun d => match d with | .int i => .int ((f i.toNat : Nat) : Int) | d => d := by
  unfold nums
  rw [List.map_map, List.map_map]
  exact List.map_congr_left fun x _ => by simp
theorem comp_nums {α : Type} {h : D → DE → Option DE} {tt : DE → Option Bool} {el : DE → Option D} {ρ : DE} (g : α → D) (f : α → D) {xs : List α} (H : ∀ i ∈ xs, ∃ ρ1, h (g i) ρ = some ρ1 ∧ tt ρ1 = some true ∧ el ρ1 = some (f i)) :
    compD h tt el ρ (xs.map g) = some (xs.map f) := by
  induction xs with
  | nil => rfl
  | cons x xs ih =>
    obtain ⟨ρ1, h1, h2, h3⟩ := H x List.mem_cons_self
    have ih := ih fun d hd => H d (List.mem_cons_of_mem _ hd)
    rw [List.map_cons, List.map_cons]
    unfold compD
    simp only [h1, h2, h3, ih, Option.bind_some, if_true]
theorem find_combined_ok {n : Nat} (hn : Sz n) {p q : List Nat} (hp : isP n p) (hq : isP n q) : m_find_combined [pat p, pat q] = some (pat (comb p q)) := by
  unfold m_find_combined
  rw [run_eq]
  show outO (b_find_combined [.dat (pat p), .dat (pat q), .bot]) = _
  unfold b_find_combined
  have hl : (nums p).length ≤ 16777216 := by rw [nums_length, hp.len]; rcases hn with rfl | rfl | rfl <;> decide
  have hc : compD (hName 2) eYes (e2 dIx (eVar 1) (eVar 2)) [.dat (pat p), .dat (pat q), .bot] (nums p) = some (nums (comb p q)) := by
    unfold comb nums
    rw [List.map_map]
    refine comp_nums (g := fun (i : Nat) => PyData.int (i : Int)) (f := _) fun i hi => ⟨_, rfl, rfl, ?_⟩
    simp only [v_var, v_own, v_varOf, v_ownOf, v_c, v_1, v_2, v_nil, v_cons, v_call, v_tup, v_lst, v_toL, v_ofL, v_toB, v_ofB, v_not, v_and, v_or, v_if, v_chain, v_ixL, v_part, v_tupL, v_l2, v_yes, v_mNil, v_mDat, v_mOwn, v_divmod, v_asL, v_asT, v_asB, v_asI, v_add, v_sub, v_neg, v_lt, v_le, v_gt, v_ge, v_isB, v_notB, v_isN, v_notN, v_isNi, v_isNn, bS, lineOk0, dIx_l, dIx_t, cLen_l, cLen_t, asSeq_l, asSeq_t, wipeD, setM, List.getElem?_cons_zero, List.getElem?_cons_succ, List.set_cons_zero, List.set_cons_succ, if_true, if_false, ite_true, ite_false, Bool.false_eq_true, Bool.not_true, Bool.not_false]
    show dIx (.tuple (nums q)) (.int (i : Int)) = _
    have : i < q.length := by rw [hq.len]; exact hp.lt i hi
    exact atI_nums this
  simp only [sRet, eTupL, eLc, e1, eVar, asSeq, Option.bind_some, List.getElem?_cons_zero, pat, lineOk_ok hl, wipeD, List.set_cons_succ, List.set_cons_zero]
  unfold pat at hc
  rw [hc]
  rfl
theorem cLen_pat {n : Nat} {p : List Nat} (hp : isP n p) : cLen [pat p] = some (.int (n : Int)) := by
  show some (PyData.int ((nums p).length : Nat)) = _
  rw [nums_length, hp.len]
theorem combined_ok {n : Nat} (hn : Sz n) {p q : List Nat} (hp : isP n p) (hq : isP n q) : m_combined [pat p, pat q] = some (pat (comb p q)) := by
  unfold m_combined
  rw [run_eq]
  show outO (b_combined [.dat (pat p), .dat (pat q)]) = _
  unfold b_combined
  rw [sSeq_nx (sExpr_ok (d := .none) (by simp only [v_var, v_own, v_varOf, v_ownOf, v_c, v_1, v_2, v_nil, v_cons, v_call, v_tup, v_lst, v_toL, v_ofL, v_toB, v_ofB, v_not, v_and, v_or, v_if, v_chain, v_ixL, v_part, v_tupL, v_l2, v_yes, v_mNil, v_mDat, v_mOwn, v_divmod, v_asL, v_asT, v_asB, v_asI, v_add, v_sub, v_neg, v_lt, v_le, v_gt, v_ge, v_isB, v_notB, v_isN, v_notN, v_isNi, v_isNn, bS, lineOk0, dIx_l, dIx_t, cLen_l, cLen_t, asSeq_l, asSeq_t, wipeD, setM, List.getElem?_cons_zero, List.getElem?_cons_succ, List.set_cons_zero, List.set_cons_succ, if_true, if_false, ite_true, ite_false, Bool.false_eq_true, Bool.not_true, Bool.not_false, check_pattern_ok hn hp])), sSeq_nx (sExpr_ok (d := .none) (by simp only [v_var, v_own, v_varOf, v_ownOf, v_c, v_1, v_2, v_nil, v_cons, v_call, v_tup, v_lst, v_toL, v_ofL, v_toB, v_ofB, v_not, v_and, v_or, v_if, v_chain, v_ixL, v_part, v_tupL, v_l2, v_yes, v_mNil, v_mDat, v_mOwn, v_divmod, v_asL, v_asT, v_asB, v_asI, v_add, v_sub, v_neg, v_lt, v_le, v_gt, v_ge, v_isB, v_notB, v_isN, v_notN, v_isNi, v_isNn, bS, lineOk0, dIx_l, dIx_t, cLen_l, cLen_t, asSeq_l, asSeq_t, wipeD, setM, List.getElem?_cons_zero, List.getElem?_cons_succ, List.set_cons_zero, List.set_cons_succ, if_true, if_false, ite_true, ite_false, Bool.false_eq_true, Bool.not_true, Bool.not_false, check_pattern_ok hn hq])),
    sSeq_nx (sIfN_f (by simp only [v_var, v_own, v_varOf, v_ownOf, v_c, v_1, v_2, v_nil, v_cons, v_call, v_tup, v_lst, v_toL, v_ofL, v_toB, v_ofB, v_not, v_and, v_or, v_if, v_chain, v_ixL, v_part, v_tupL, v_l2, v_yes, v_mNil, v_mDat, v_mOwn, v_divmod, v_asL, v_asT, v_asB, v_asI, v_add, v_sub, v_neg, v_lt, v_le, v_gt, v_ge, v_isB, v_notB, v_isN, v_notN, v_isNi, v_isNn, bS, lineOk0, dIx_l, dIx_t, cLen_l, cLen_t, asSeq_l, asSeq_t, wipeD, setM, List.getElem?_cons_zero, List.getElem?_cons_succ, List.set_cons_zero, List.set_cons_succ, if_true, if_false, ite_true, ite_false, Bool.false_eq_true, Bool.not_true, Bool.not_false, cLen_pat hp, cLen_pat hq, dNe_self (Sh.int (k := 0) (n : Int))])), sRet_ok (d := pat (comb p q)) (by simp only [v_var, v_own, v_varOf, v_ownOf, v_c, v_1, v_2, v_nil, v_cons, v_call, v_tup, v_lst, v_toL, v_ofL, v_toB, v_ofB, v_not, v_and, v_or, v_if, v_chain, v_ixL, v_part, v_tupL, v_l2, v_yes, v_mNil, v_mDat, v_mOwn, v_divmod, v_asL, v_asT, v_asB, v_asI, v_add, v_sub, v_neg, v_lt, v_le, v_gt, v_ge, v_isB, v_notB, v_isN, v_notN, v_isNi, v_isNn, bS, lineOk0, dIx_l, dIx_t, cLen_l, cLen_t, asSeq_l, asSeq_t, wipeD, setM, List.getElem?_cons_zero, List.getElem?_cons_succ, List.set_cons_zero, List.set_cons_succ, if_true, if_false, ite_true, ite_false, Bool.false_eq_true, Bool.not_true, Bool.not_false, find_combined_ok hn hp hq])]
  rfl
theorem first_pattern_ok {n : Nat} (hn : Sz n) : m_first_pattern [.int (n : Int)] = some (pat (idp n)) := by
  rcases hn with rfl | rfl | rfl <;> rfl
end DL

namespace DL
open PySem PySem.Spec L2
theorem rng1_of (n : Int) : rng1 (.int n) = if -4611686018427387904 ≤ n ∧ n < 4611686018427387904 then some (rangeL 0 n.toNat) else none := rfl
theorem rng1_ok (n : Nat) (h : n ≤ 1000000) : rng1 (.int (n : Int)) = some (nums (List.range n)) :=
  ((rng1_of _).trans (if_pos ⟨by omega, by omega⟩)).trans (congrArg some (rangeL_int n))
theorem e1_ok {α : Type} {f : D → Option α} {g : DE → Option D} {ρ : DE} {d : D} {r : Option α} (h : g ρ = some d) (h2 : f d = r) : e1 f g ρ = r := by
  unfold e1
  rw [h]
  exact h2
theorem sForR {g : DE → Option D} {h : D → DE → Option DE} {b : DS} {ρ : DE} (n : Nat) (hn : n ≤ 1000000) (hg : g ρ = some (.int (n : Int))) : sFor (e1 rng1 g) h b ρ = forD h b (nums (List.range n)) ρ :=
  sFor_ok (e1_ok hg (rng1_ok n hn))
theorem rgN_ok {g : DE → Option D} {ρ : DE} (n : Nat) (h : n ≤ 16777216) (hg : g ρ = some (.int (n : Int))) : rgN g ρ = some (nums (List.range n)) := by
  unfold rgN
  simp only [hg, asI, Option.bind_some]
  rw [if_pos (by omega), rangeL_int]
theorem map_erase {α β : Type} (f : α → β) : ∀ (l : List α) (i : Nat), (l.map f).eraseIdx i = (l.eraseIdx i).map f
  | [], _ => rfl
  | _ :: _, 0 => rfl
  | x :: l, i + 1 => by
    show f x :: (l.map f).eraseIdx i = f x :: (l.eraseIdx i).map f
    rw [map_erase f l i]
theorem erase_perm : ∀ (l : List Nat) (i : Nat) (h : i < l.length), (l[i] :: l.eraseIdx i).Perm l
  | [], i, h => absurd h (Nat.not_lt_zero _)
  | x :: l, 0, h => List.Perm.refl _
  | x :: l, i + 1, h => by
    have ih := erase_perm l i (by simpa using h)
    exact (List.Perm.swap x _ _).trans (ih.cons x)
theorem nums_app (p q : List Nat) : nums (p ++ q) = nums p ++ nums q := by unfold nums; rw [List.map_append]
theorem nums_erase (p : List Nat) (i : Nat) : (nums p).eraseIdx i = nums (p.eraseIdx i) := by unfold nums; rw [map_erase]
theorem ixN_ok {n i : Nat} (h : i < n) : ixN n (i : Int) = some i := by
  unfold ixN
  split
  · rw [if_pos (by omega)]; simp
  · omega
theorem range_get {n i : Nat} {d : D} (h : (nums (List.range n))[i]? = some d) : i < n ∧ d = .int (i : Int) := by
  rw [nums_get] at h
  by_cases hi : i < n
  · rw [List.getElem?_range hi] at h
    cases h
    exact ⟨hi, rfl⟩
  · rw [List.getElem?_eq_none (by rw [List.length_range]; omega)] at h
    cases h
def appPopG (B C : Nat) (i j : Nat) (g : DE → Option D) (ρ : DE) : SO := match (g ρ).bind asI with
  | some k => match ρ[i]?, ρ[j]? with
    | some (.own ds), some (.own es) => match ixN es.length k with
      | some n => match es[n]? with
        | some d => if ds.length < B ∧ es.length < C then .nx ((ρ.set j (.own (es.eraseIdx n))).set i (.own (ds ++ [d]))) else .bad
        | none => .bad
      | none => .bad
    | _, _ => .bad
  | none => .bad
theorem appPopG_eq (i j : Nat) (g : DE → Option D) (ρ : DE) : sAppPop i j g ρ = appPopG 16777216 9223372036854775808 i j g ρ := rfl
theorem appPopG_ok {i j : Nat} {g : DE → Option D} {ρ : DE} {k : Int} {ds es : List D} {n : Nat} {d : D} (B C : Nat) (hg : g ρ = some (.int k)) (h1 : ρ[i]? = some (.own ds)) (h2 : ρ[j]? = some (.own es)) (hn : ixN es.length k = some n) (hd : es[n]? = some d) (hl : ds.length < B) (hl2 : es.length < C) :
    appPopG B C i j g ρ = .nx ((ρ.set j (.own (es.eraseIdx n))).set i (.own (ds ++ [d]))) := by
  have e : (g ρ).bind asI = some k := by rw [hg]; rfl
  unfold appPopG
  simp only [e, h1, h2, hn, hd, hl, hl2, and_self, if_true]
theorem few9 {n : Nat} (h : n ≤ 1000) : n < 9223372036854775808 := Nat.lt_of_le_of_lt h (by decide)
theorem few16 {n : Nat} (h : n ≤ 1000) : n < 16777216 := Nat.lt_of_le_of_lt h (by decide)
theorem sAppPop_ok {i j : Nat} {g : DE → Option D} {ρ : DE} {k : Int} {ds es : List D} {n : Nat} {d : D} (hg : g ρ = some (.int k)) (h1 : ρ[i]? = some (.own ds)) (h2 : ρ[j]? = some (.own es)) (hn : ixN es.length k = some n) (hd : es[n]? = some d) (hl : ds.length ≤ 1000) (hl2 : es.length ≤ 1000) :
    sAppPop i j g ρ = .nx ((ρ.set j (.own (es.eraseIdx n))).set i (.own (ds ++ [d]))) :=
  (appPopG_eq i j g ρ).trans (appPopG_ok 16777216 9223372036854775808 hg h1 h2 hn hd (few16 hl) (few9 hl2))
theorem swap_ok (ns : List Int) (hl : ns.length ≤ 63) (k n : Nat) (hk : k < 90000) (hn : Sz n) : ∃ p : List Nat, isP n p ∧ m__law_swap [script ns, .int (k : Int), .int (n : Int)] = some (pat p) := by
  have hn5 : n ≤ 5 := by rcases hn with rfl | rfl | rfl <;> omega
  unfold m__law_swap
  rw [run_eq]
  show ∃ p : List Nat, isP n p ∧ outO (b__law_swap [.dat (script ns), .dat (.int (k : Int)), .dat (.int (n : Int)), .bot, .bot, .bot]) = some (pat p)
  unfold b__law_swap
  have h1 : mOwn (rgN (eVar 2)) (mOwn (eLst eNil) mNil) [.dat (script ns), .dat (.int (k : Int)), .dat (.int (n : Int)), .bot, .bot, .bot] = some [.own (nums (List.range n)), .own []] := by
    unfold mOwn
    rw [rgN_ok n (by omega) rfl]
    rfl
  rw [sSeq_nx (sPar_ok h1)]
  simp only [setM, List.set_cons_succ, List.set_cons_zero]
  have hf : sFor (e1 rng1 (eVar 2)) (hName 5) (sAppPop 4 3 (eCall m__law_pick (eCons (eVar 0) (eCons (e2 dAdd (eVar 1) (eVar 5)) (eCons (eCall cLen (eCons (eOfL (eOwn 3)) eNil)) eNil))))) [.dat (script ns), .dat (.int (k : Int)), .dat (.int (n : Int)), .own (nums (List.range n)), .own [], .bot] =
      forD (hName 5) (sAppPop 4 3 (eCall m__law_pick (eCons (eVar 0) (eCons (e2 dAdd (eVar 1) (eVar 5)) (eCons (eCall cLen (eCons (eOfL (eOwn 3)) eNil)) eNil))))) (nums (List.range n)) [.dat (script ns), .dat (.int (k : Int)), .dat (.int (n : Int)), .own (nums (List.range n)), .own [], .bot] :=
    sForR n (by omega) rfl
  obtain ⟨ρ', h2, ⟨L, F, z, rfl, hlen, hperm⟩⟩ := for_inv (h := hName 5) (b := sAppPop 4 3 (eCall m__law_pick (eCons (eVar 0) (eCons (e2 dAdd (eVar 1) (eVar 5)) (eCons (eCall cLen (eCons (eOfL (eOwn 3)) eNil)) eNil)))))
    (fun i ρ => ∃ (L F : List Nat) (z : DV), ρ = [.dat (script ns), .dat (.int (k : Int)), .dat (.int (n : Int)), .own (nums L), .own (nums F), z] ∧ F.length = i ∧ (F ++ L).Perm (List.range n))
    (ds := nums (List.range n)) (k := 0) (ρ := [.dat (script ns), .dat (.int (k : Int)), .dat (.int (n : Int)), .own (nums (List.range n)), .own [], .bot]) ⟨List.range n, [], .bot, rfl, rfl, List.Perm.refl _⟩
    (fun i d ρ hd ⟨L, F, z, e, hlen, hperm⟩ => by
      subst e
      obtain ⟨hi, rfl⟩ := range_get hd
      rw [Nat.zero_add] at hlen
      have hLl : L.length = n - i := by
        have := hperm.length_eq
        rw [List.length_append, List.length_range, hlen] at this
        omega
      obtain ⟨r, hr, hp⟩ := pick_ok ns hl (k + i) L.length (by omega) (by omega)
      have hgp : (eCall m__law_pick (eCons (eVar 0) (eCons (e2 dAdd (eVar 1) (eVar 5)) (eCons (eCall cLen (eCons (eOfL (eOwn 3)) eNil)) eNil)))) [.dat (script ns), .dat (.int (k : Int)), .dat (.int (n : Int)), .own (nums L), .own (nums F), .dat (.int (i : Int))] = some (.int (r : Int)) := by
        simp only [v_var, v_own, v_varOf, v_ownOf, v_c, v_1, v_2, v_nil, v_cons, v_call, v_tup, v_lst, v_toL, v_ofL, v_toB, v_ofB, v_not, v_and, v_or, v_if, v_chain, v_ixL, v_part, v_tupL, v_l2, v_yes, v_mNil, v_mDat, v_mOwn, v_divmod, v_asL, v_asT, v_asB, v_asI, v_add, v_sub, v_neg, v_lt, v_le, v_gt, v_ge, v_isB, v_notB, v_isN, v_notN, v_isNi, v_isNn, bS, lineOk0, dIx_l, dIx_t, cLen_l, cLen_t, asSeq_l, asSeq_t, wipeD, setM, List.getElem?_cons_zero, List.getElem?_cons_succ, List.set_cons_zero, List.set_cons_succ, if_true, if_false, ite_true, ite_false, Bool.false_eq_true, Bool.not_true, Bool.not_false]
        rw [nums_length]
        exact hp
      refine ⟨_, [.dat (script ns), .dat (.int (k : Int)), .dat (.int (n : Int)), .own (nums (L.eraseIdx r)), .own (nums (F ++ [L[r]])), .dat (.int (i : Int))], rfl, .inl ?_, L.eraseIdx r, F ++ [L[r]], _, rfl, by rw [List.length_append, hlen, Nat.zero_add]; rfl, ?_⟩
      · show sAppPop 4 3 _ [.dat (script ns), .dat (.int (k : Int)), .dat (.int (n : Int)), .own (nums L), .own (nums F), .dat (.int (i : Int))] = _
        have hr' : r < (nums L).length := by rw [nums_length]; exact hr
        refine (sAppPop_ok (ds := nums F) (es := nums L) (d := .int (L[r] : Nat)) hgp rfl rfl (ixN_ok hr') (by rw [nums_get, List.getElem?_eq_getElem hr]; rfl) (by rw [nums_length]; omega) (by rw [nums_length]; omega)).trans ?_
        simp only [List.set_cons_succ, List.set_cons_zero, nums_erase, nums_app]
        rfl
      · refine List.Perm.trans ?_ hperm
        rw [List.append_assoc]
        exact List.Perm.append_left F (by rw [List.singleton_append]; exact erase_perm L r hr))
  rw [sSeq_nx (hf.trans h2)]
  rw [Nat.zero_add, nums_length, List.length_range] at hlen
  have hL : L = [] := by
    have := hperm.length_eq
    rw [List.length_append, List.length_range, hlen] at this
    exact List.eq_nil_of_length_eq_zero (by omega)
  subst hL
  rw [List.append_nil] at hperm
  exact ⟨F, ⟨hlen, fun x hx => List.mem_range.mp (hperm.mem_iff.mp hx), hperm.nodup_iff.mpr List.nodup_range⟩, rfl⟩
end DL

namespace DL
open PySem PySem.Spec L2
/-! ### for the laws' own text -/
/-- what a loop of a law keeps: the script stays, the slots stay as many -/
def Keep (s : D) (n : Nat) (ρ : DE) : Prop := ρ.length = n ∧ ρ[0]? = some (.dat s)
def st0 : SO → Option DV × Nat
  | .nx ρ => (ρ[0]?, ρ.length)
  | _ => (none, 0)
theorem st0_keep {s : D} {n : Nat} {r : SO} (h : st0 r = (some (.dat s), n)) (hn : 0 < n) : ∃ ρ, r = .nx ρ ∧ Keep s n ρ := by
  cases r with
  | nx ρ => exact ⟨ρ, rfl, congrArg Prod.snd h, congrArg Prod.fst h⟩
  | _ => have := congrArg Prod.snd h; simp only [st0] at this; omega
theorem map_same {α β : Type} {l : List α} {f : α → β} {c : β} {k : Nat} (h : l.map f = List.replicate k c) {x : α} (hx : x ∈ l) : f x = c :=
  List.eq_of_mem_replicate (n := k) (h ▸ List.mem_map_of_mem hx)
/-- a law's loop over so many turns -/
theorem turns {s : D} {n m : Nat} {b : DS} {j : Nat} (hm : m ≤ 1000000) {g : DE → Option D} {ρ : DE} (hg : g ρ = some (.int (m : Int))) (h0 : Keep s n ρ)
    (H : ∀ i ρ, i < m → Keep s n ρ → ∃ ρ', b (ρ.set j (.dat (.int ((i : Nat) : Int)))) = .nx ρ' ∧ Keep s n ρ') : ∃ ρ', sFor (e1 rng1 g) (hName j) b ρ = .nx ρ' ∧ Keep s n ρ' := by
  rw [sForR m hm hg]
  obtain ⟨ρ', h1, h2⟩ := for_inv (h := hName j) (b := b) (fun _ ρ => Keep s n ρ) (ds := nums (List.range m)) (k := 0) (ρ := ρ) h0 fun i d ρ hd hk => by
    obtain ⟨hi, rfl⟩ := range_get hd
    obtain ⟨ρ', h1, h2⟩ := H i ρ hi hk
    exact ⟨_, ρ', rfl, .inl h1, h2⟩
  exact ⟨ρ', h1, h2⟩
theorem sz_of {r : Nat} (h : r < 3) : Sz (3 + r) := by
  unfold Sz; omega
/-- a place in a script: a times b, and more -/
theorem at0 (a i : Nat) (ha : a ≤ 1000000) {ρ : DE} {j : Nat} (hj : ρ[j]? = some (.dat (.int (i : Int)))) : (e2 dMul (eC (.int (a : Int))) (eVar j)) ρ = some (.int ((a * i : Nat) : Int)) := by
  rw [v_2, v_c, bS, v_var, hj, v_varOf, bS]
  exact mulN a i (by omega)
theorem at1 (a i c : Nat) (ha : a ≤ 1000000) {ρ : DE} {j : Nat} (hj : ρ[j]? = some (.dat (.int (i : Int)))) : (e2 dAdd (e2 dMul (eC (.int (a : Int))) (eVar j)) (eC (.int (c : Int)))) ρ = some (.int ((a * i + c : Nat) : Int)) := by
  rw [v_2, at0 a i ha hj, bS, v_c, bS]
  exact addN _ _
/-! ### comprehensions over numbers -/
theorem comp_rg {j n : Nat} {el : DE → Option D} {ρ : DE} (f : Nat → D) (H : ∀ i, i < n → el (ρ.set j (.dat (.int ((i : Nat) : Int)))) = some (f i)) : compD (hName j) eYes el ρ (nums (List.range n)) = some ((List.range n).map f) := by
  unfold nums
  exact comp_nums (g := fun (i : Nat) => PyData.int (i : Int)) (f := f) fun i hi => ⟨_, rfl, rfl, H i (List.mem_range.mp hi)⟩
/-- a whole comprehension over range(n) -/
theorem lc_rg {vs : List Nat} {j n : Nat} {g : DE → Option D} {el : DE → Option D} {ρ : DE} (hn : n ≤ 1000000) (hg : g ρ = some (.int (n : Int))) (f : Nat → D) (H : ∀ i, i < n → el ((wipeD ρ vs).set j (.dat (.int ((i : Nat) : Int)))) = some (f i)) :
    eLc vs (e1 rng1 g) (hName j) eYes el ρ = some ((List.range n).map f) := by
  rw [v_lc, e1_ok hg (rng1_ok n hn), bS, lineOk_ok (by rw [nums_length, List.length_range]; omega), bS]
  exact comp_rg f H
/-- a whole comprehension over a list of data -/
theorem lc_map {α : Type} {vs : List Nat} {j : Nat} {g : DE → Option (List D)} {el : DE → Option D} {ρ : DE} (u : α → D) (f : α → D) {xs : List α} (hl : xs.length ≤ 16777216) (hg : g ρ = some (xs.map u)) (H : ∀ x ∈ xs, el ((wipeD ρ vs).set j (.dat (u x))) = some (f x)) :
    eLc vs g (hName j) eYes el ρ = some (xs.map f) := by
  rw [v_lc, hg, bS, lineOk_ok (by rw [List.length_map]; exact hl), bS]
  exact comp_nums (g := u) (f := f) fun i hi => ⟨_, rfl, rfl, H i hi⟩
theorem comb_range {n : Nat} {p : List Nat} (hp : p.length = n) (q : List Nat) : comb p q = (List.range n).map fun k => q.getD (p.getD k 0) 0 := by
  refine ext_getD (by rw [comb_len, List.length_map, List.length_range, hp]) fun x hx => ?_
  rw [comb_len] at hx
  rw [comb_get q hx, getD_map (by rw [List.length_range]; omega)]
  have := idp_get (n := n) (x := x) (by omega)
  unfold idp at this
  rw [this]
theorem nums_mapN {α : Type} (l : List α) (f : α → Nat) : nums (l.map f) = l.map fun x => PyData.int ((f x : Nat) : Int) := by unfold nums; rw [List.map_map]; rfl
theorem dIx_p {n : Nat} {p : List Nat} (hp : isP n p) {i : Nat} (h : i < n) : dIx (pat p) (.int (i : Int)) = some (.int ((p.getD i 0 : Nat) : Int)) := dIx_pat (by rw [hp.len]; exact h)
end DL

namespace DL
open PySem PySem.Spec L2
/-! ### programs -/
structure isPr (n : Nat) (ps : List (List Nat)) : Prop where
  pos : 0 < ps.length
  le : ps.length ≤ 4
  all : ∀ p ∈ ps, isP n p
def nth (ps : List (List Nat)) (i : Nat) : List Nat := ps.getD i []
theorem nth_P {n : Nat} {ps : List (List Nat)} (h : isPr n ps) {i : Nat} (hi : i < ps.length) : isP n (nth ps i) := by
  unfold nth
  rw [List.getD_eq_getElem?_getD, List.getElem?_eq_getElem hi]
  exact h.all _ (List.getElem_mem hi)
theorem Sz.le {n : Nat} (h : Sz n) : n ≤ 5 := by rcases h with rfl | rfl | rfl <;> omega
theorem Sz.ge {n : Nat} (h : Sz n) : 3 ≤ n := by rcases h with rfl | rfl | rfl <;> omega
theorem dIx_prog {ps : List (List Nat)} {i : Nat} (h : i < ps.length) : dIx (prog ps) (.int (i : Int)) = some (pat (nth ps i)) := by
  unfold prog
  rw [dIx_t]
  refine atI_ok ?_
  unfold nth
  rw [List.getElem?_map, List.getElem?_eq_getElem h, List.getD_eq_getElem?_getD, List.getElem?_eq_getElem h]; rfl
theorem dIx_prog0 {ps : List (List Nat)} (h : 0 < ps.length) : dIx (prog ps) (.int 0) = some (pat (nth ps 0)) := dIx_prog h
theorem cLen_prog (ps : List (List Nat)) : cLen [prog ps] = some (.int (ps.length : Int)) := by
  unfold prog
  rw [cLen_t, List.length_map]
theorem asBs_true {α : Type} (l : List α) : asBs (l.map fun _ => PyData.bool true) = some (l.map fun _ => true) := by
  have := asBs_map (l.map fun _ => true)
  rw [List.map_map] at this
  exact this
theorem cAll_map {α : Type} (l : List α) (f : α → Bool) : cAll [.list (l.map fun x => PyData.bool (f x))] = some (.bool (l.all f)) := by
  have h : l.map (fun x => PyData.bool (f x)) = (l.map f).map PyData.bool := by rw [List.map_map]; rfl
  unfold cAll
  simp only [h, asBs_map, bS, List.all_map]
  rfl
theorem cAny_map {α : Type} (l : List α) (f : α → Bool) : cAny [.list (l.map fun x => PyData.bool (f x))] = some (.bool (l.any f)) := by
  have h : l.map (fun x => PyData.bool (f x)) = (l.map f).map PyData.bool := by rw [List.map_map]; rfl
  unfold cAny
  simp only [h, asBs_map, bS, List.any_map]
  rfl
theorem lenSet_same {m : Nat} (hm : 0 < m) (hm4 : m ≤ 4) (n : Nat) : dLenSet (.list ((List.range m).map fun _ => PyData.int (n : Int))) = some (.int 1) := by
  have : m = 1 ∨ m = 2 ∨ m = 3 ∨ m = 4 := by omega
  have e : ∀ m : Nat, (List.range m).map (fun _ => PyData.int (n : Int)) = (List.replicate m (n : Int)).map PyData.int := by
    intro m
    rw [List.map_replicate]
    apply List.ext_getElem
    · simp
    · intro i h1 h2
      simp
  unfold dLenSet asSet
  rw [e, asSeq_l, bS, asIs_map, bS, if_pos (by rw [List.length_replicate]; omega), bS]
  rcases this with rfl | rfl | rfl | rfl <;> simp [List.replicate, dist]
theorem map_const {α β : Type} (l : List α) (c : β) : l.map (fun _ => c) = (List.range l.length).map fun _ => c := by
  apply List.ext_getElem
  · simp
  · intro i h1 h2
    simp
theorem are_patterns_ok {n : Nat} (hn : Sz n) {ps : List (List Nat)} (h : isPr n ps) : m_are_patterns [prog ps] = some (.bool true) := by
  unfold m_are_patterns
  rw [run_eq]
  show outO (b_are_patterns [.dat (prog ps), .bot]) = _
  unfold b_are_patterns
  have h1 : eLc [1] (e1 asSeq (eVar 0)) (hName 1) eYes (eCall m_is_pattern (eCons (eVar 1) eNil)) [.dat (prog ps), .bot] = some (ps.map fun _ => PyData.bool true) :=
    lc_map pat _ (Nat.le_trans h.le (by decide)) (by simp only [v_var, v_own, v_varOf, v_ownOf, v_c, v_1, v_2, v_nil, v_cons, v_call, v_tup, v_lst, v_toL, v_ofL, v_toB, v_ofB, v_not, v_and, v_or, v_if, v_chain, v_ixL, v_part, v_tupL, v_l2, v_yes, v_mNil, v_mDat, v_mOwn, v_divmod, v_asL, v_asT, v_asB, v_asI, v_add, v_sub, v_neg, v_lt, v_le, v_gt, v_ge, v_isB, v_notB, v_isN, v_notN, v_isNi, v_isNn, bS, lineOk0, dIx_l, dIx_t, cLen_l, cLen_t, asSeq_l, asSeq_t, wipeD, setM, List.getElem?_cons_zero, List.getElem?_cons_succ, List.set_cons_zero, List.set_cons_succ, if_true, if_false, ite_true, ite_false, Bool.false_eq_true, Bool.not_true, Bool.not_false, asSeq_prog]) fun p hp => by
      simp only [v_var, v_own, v_varOf, v_ownOf, v_c, v_1, v_2, v_nil, v_cons, v_call, v_tup, v_lst, v_toL, v_ofL, v_toB, v_ofB, v_not, v_and, v_or, v_if, v_chain, v_ixL, v_part, v_tupL, v_l2, v_yes, v_mNil, v_mDat, v_mOwn, v_divmod, v_asL, v_asT, v_asB, v_asI, v_add, v_sub, v_neg, v_lt, v_le, v_gt, v_ge, v_isB, v_notB, v_isN, v_notN, v_isNi, v_isNn, bS, lineOk0, dIx_l, dIx_t, cLen_l, cLen_t, asSeq_l, asSeq_t, wipeD, setM, List.getElem?_cons_zero, List.getElem?_cons_succ, List.set_cons_zero, List.set_cons_succ, if_true, if_false, ite_true, ite_false, Bool.false_eq_true, Bool.not_true, Bool.not_false, is_pattern_ok hn (h.all p hp)]
  have h2 : eLc [1] (e1 asSeq (eVar 0)) (hName 1) eYes (eCall cLen (eCons (eVar 1) eNil)) [.dat (prog ps), .bot] = some (ps.map fun _ => PyData.int (n : Int)) :=
    lc_map pat _ (Nat.le_trans h.le (by decide)) (by simp only [v_var, v_own, v_varOf, v_ownOf, v_c, v_1, v_2, v_nil, v_cons, v_call, v_tup, v_lst, v_toL, v_ofL, v_toB, v_ofB, v_not, v_and, v_or, v_if, v_chain, v_ixL, v_part, v_tupL, v_l2, v_yes, v_mNil, v_mDat, v_mOwn, v_divmod, v_asL, v_asT, v_asB, v_asI, v_add, v_sub, v_neg, v_lt, v_le, v_gt, v_ge, v_isB, v_notB, v_isN, v_notN, v_isNi, v_isNn, bS, lineOk0, dIx_l, dIx_t, cLen_l, cLen_t, asSeq_l, asSeq_t, wipeD, setM, List.getElem?_cons_zero, List.getElem?_cons_succ, List.set_cons_zero, List.set_cons_succ, if_true, if_false, ite_true, ite_false, Bool.false_eq_true, Bool.not_true, Bool.not_false, asSeq_prog]) fun p hp => by
      simp only [v_var, v_own, v_varOf, v_ownOf, v_c, v_1, v_2, v_nil, v_cons, v_call, v_tup, v_lst, v_toL, v_ofL, v_toB, v_ofB, v_not, v_and, v_or, v_if, v_chain, v_ixL, v_part, v_tupL, v_l2, v_yes, v_mNil, v_mDat, v_mOwn, v_divmod, v_asL, v_asT, v_asB, v_asI, v_add, v_sub, v_neg, v_lt, v_le, v_gt, v_ge, v_isB, v_notB, v_isN, v_notN, v_isNi, v_isNn, bS, lineOk0, dIx_l, dIx_t, cLen_l, cLen_t, asSeq_l, asSeq_t, wipeD, setM, List.getElem?_cons_zero, List.getElem?_cons_succ, List.set_cons_zero, List.set_cons_succ, if_true, if_false, ite_true, ite_false, Bool.false_eq_true, Bool.not_true, Bool.not_false, cLen_pat (h.all p hp)]
  have l1 : (1 : Int) ≤ (ps.length : Int) := by have := h.pos; omega
  have l4 : (ps.length : Int) ≤ 4 := by have := h.le; omega
  have ca := cAll_map ps (fun _ => true)
  have hall : ps.all (fun _ => true) = true := List.all_eq_true.mpr fun _ _ => rfl
  rw [hall] at ca
  rw [sSeq_nx (sIfN_f (by simp only [v_var, v_own, v_varOf, v_ownOf, v_c, v_1, v_2, v_nil, v_cons, v_call, v_tup, v_lst, v_toL, v_ofL, v_toB, v_ofB, v_not, v_and, v_or, v_if, v_chain, v_ixL, v_part, v_tupL, v_l2, v_yes, v_mNil, v_mDat, v_mOwn, v_divmod, v_asL, v_asT, v_asB, v_asI, v_add, v_sub, v_neg, v_lt, v_le, v_gt, v_ge, v_isB, v_notB, v_isN, v_notN, v_isNi, v_isNn, bS, lineOk0, dIx_l, dIx_t, cLen_l, cLen_t, asSeq_l, asSeq_t, wipeD, setM, List.getElem?_cons_zero, List.getElem?_cons_succ, List.set_cons_zero, List.set_cons_succ, if_true, if_false, ite_true, ite_false, Bool.false_eq_true, Bool.not_true, Bool.not_false, cLen_prog, l1, l4, decide_true, h1, ca]))]
  rw [sRet_ok (d := .bool true) (by
    simp only [v_var, v_own, v_varOf, v_ownOf, v_c, v_1, v_2, v_nil, v_cons, v_call, v_tup, v_lst, v_toL, v_ofL, v_toB, v_ofB, v_not, v_and, v_or, v_if, v_chain, v_ixL, v_part, v_tupL, v_l2, v_yes, v_mNil, v_mDat, v_mOwn, v_divmod, v_asL, v_asT, v_asB, v_asI, v_add, v_sub, v_neg, v_lt, v_le, v_gt, v_ge, v_isB, v_notB, v_isN, v_notN, v_isNi, v_isNn, bS, lineOk0, dIx_l, dIx_t, cLen_l, cLen_t, asSeq_l, asSeq_t, wipeD, setM, List.getElem?_cons_zero, List.getElem?_cons_succ, List.set_cons_zero, List.set_cons_succ, if_true, if_false, ite_true, ite_false, Bool.false_eq_true, Bool.not_true, Bool.not_false, h2]
    rw [map_const ps, lenSet_same h.pos h.le, bS, dEq_self (Sh.int (k := 0) 1), bS])]
  rfl
theorem isK_prog (ps : List (List Nat)) : dIsK "tuple" (prog ps) = some true := rfl
theorem isK_pat (p : List Nat) : dIsK "tuple" (pat p) = some true := rfl
theorem is_program_ok {n : Nat} (hn : Sz n) {ps : List (List Nat)} (h : isPr n ps) : m_is_program [prog ps] = some (.bool true) := by
  unfold m_is_program
  rw [run_eq]
  show outO (b_is_program [.dat (prog ps)]) = _
  unfold b_is_program
  rw [sRet_ok (d := .bool true) (by simp only [v_var, v_own, v_varOf, v_ownOf, v_c, v_1, v_2, v_nil, v_cons, v_call, v_tup, v_lst, v_toL, v_ofL, v_toB, v_ofB, v_not, v_and, v_or, v_if, v_chain, v_ixL, v_part, v_tupL, v_l2, v_yes, v_mNil, v_mDat, v_mOwn, v_divmod, v_asL, v_asT, v_asB, v_asI, v_add, v_sub, v_neg, v_lt, v_le, v_gt, v_ge, v_isB, v_notB, v_isN, v_notN, v_isNi, v_isNn, bS, lineOk0, dIx_l, dIx_t, cLen_l, cLen_t, asSeq_l, asSeq_t, wipeD, setM, List.getElem?_cons_zero, List.getElem?_cons_succ, List.set_cons_zero, List.set_cons_succ, if_true, if_false, ite_true, ite_false, Bool.false_eq_true, Bool.not_true, Bool.not_false, isK_prog, are_patterns_ok hn h])]
  rfl
theorem check_program_ok {n : Nat} (hn : Sz n) {ps : List (List Nat)} (h : isPr n ps) : m_check_program [prog ps] = some .none := by
  unfold m_check_program
  rw [run_eq]
  show outO (b_check_program [.dat (prog ps)]) = _
  unfold b_check_program
  rw [sIfN_f (by simp only [v_var, v_own, v_varOf, v_ownOf, v_c, v_1, v_2, v_nil, v_cons, v_call, v_tup, v_lst, v_toL, v_ofL, v_toB, v_ofB, v_not, v_and, v_or, v_if, v_chain, v_ixL, v_part, v_tupL, v_l2, v_yes, v_mNil, v_mDat, v_mOwn, v_divmod, v_asL, v_asT, v_asB, v_asI, v_add, v_sub, v_neg, v_lt, v_le, v_gt, v_ge, v_isB, v_notB, v_isN, v_notN, v_isNi, v_isNn, bS, lineOk0, dIx_l, dIx_t, cLen_l, cLen_t, asSeq_l, asSeq_t, wipeD, setM, List.getElem?_cons_zero, List.getElem?_cons_succ, List.set_cons_zero, List.set_cons_succ, if_true, if_false, ite_true, ite_false, Bool.false_eq_true, Bool.not_true, Bool.not_false, is_program_ok hn h])]
  rfl
/-! ### where the tyres are after so many intervals -/
def P (n : Nat) (ps : List (List Nat)) : Nat → List Nat
  | 0 => idp n
  | k + 1 => comb (P n ps k) (nth ps (k % ps.length))
theorem P_P {n : Nat} {ps : List (List Nat)} (h : isPr n ps) : ∀ k, isP n (P n ps k)
  | 0 => idp_P n
  | k + 1 => comb_P (P_P h k) (nth_P h (Nat.mod_lt _ h.pos))
def prod (n : Nat) (ps : List (List Nat)) : List Nat := P n ps ps.length
theorem prod_P {n : Nat} {ps : List (List Nat)} (h : isPr n ps) : isP n (prod n ps) := P_P h _
theorem P_add {n : Nat} {ps : List (List Nat)} (h : isPr n ps) : ∀ k, P n ps (k + ps.length) = comb (prod n ps) (P n ps k)
  | 0 => by
    rw [Nat.zero_add]
    exact (comb_id (prod_P h)).symm
  | k + 1 => by
    have e : k + 1 + ps.length = (k + ps.length) + 1 := by omega
    rw [e]
    show comb (P n ps (k + ps.length)) (nth ps ((k + ps.length) % ps.length)) = comb (prod n ps) (comb (P n ps k) (nth ps (k % ps.length)))
    rw [P_add h k, Nat.add_mod_right, comb_assoc (prod_P h) (P_P h k).len]
theorem pw_comm {n : Nat} {p : List Nat} (hp : isP n p) : ∀ m, comb p (pw p m) = comb (pw p m) p
  | 0 => by
    unfold pw
    rw [hp.len, comb_id hp, id_comb hp.len]
  | m + 1 => by
    show comb p (comb (pw p m) p) = comb (comb (pw p m) p) p
    rw [← comb_assoc hp (pw_P hp m).len, pw_comm hp m]
theorem P_mul {n : Nat} {ps : List (List Nat)} (h : isPr n ps) (k : Nat) : ∀ m, P n ps (k + m * ps.length) = comb (pw (prod n ps) m) (P n ps k)
  | 0 => by
    rw [Nat.zero_mul, Nat.add_zero]
    show _ = comb (idp (prod n ps).length) _
    rw [(prod_P h).len, id_comb (P_P h k).len]
  | m + 1 => by
    have e : k + (m + 1) * ps.length = (k + m * ps.length) + ps.length := by rw [Nat.add_mul, Nat.one_mul, Nat.add_assoc]
    rw [e, P_add h, P_mul h k m, ← comb_assoc (prod_P h) (pw_P (prod_P h) m).len, pw_comm (prod_P h)]
    rfl
/-- a full turn -/
def T (n : Nat) (ps : List (List Nat)) : Nat := ps.length * ordN (prod n ps)
theorem T_pos {n : Nat} (hn : Sz n) {ps : List (List Nat)} (h : isPr n ps) : 0 < T n ps := Nat.mul_pos h.pos (ord_facts hn (prod_P h)).1
theorem T_le {n : Nat} (hn : Sz n) {ps : List (List Nat)} (h : isPr n ps) : T n ps ≤ 24 := Nat.mul_le_mul h.le (ord_facts hn (prod_P h)).2.1
theorem P_turn {n : Nat} (hn : Sz n) {ps : List (List Nat)} (h : isPr n ps) (k : Nat) : P n ps (k + T n ps) = P n ps k := by
  unfold T
  rw [Nat.mul_comm, P_mul h, (ord_facts hn (prod_P h)).2.2, id_comb (P_P h k).len]
theorem P_turns {n : Nat} (hn : Sz n) {ps : List (List Nat)} (h : isPr n ps) (k : Nat) : ∀ m, P n ps (k + m * T n ps) = P n ps k
  | 0 => by rw [Nat.zero_mul, Nat.add_zero]
  | m + 1 => by
    have e : k + (m + 1) * T n ps = (k + m * T n ps) + T n ps := by rw [Nat.add_mul, Nat.one_mul, Nat.add_assoc]
    rw [e, P_turn hn h, P_turns hn h k m]
theorem P_mod {n : Nat} (hn : Sz n) {ps : List (List Nat)} (h : isPr n ps) (k : Nat) : P n ps (k % T n ps) = P n ps k := by
  have e : k % T n ps + k / T n ps * T n ps = k := by rw [Nat.mul_comm]; exact Nat.mod_add_div k _
  rw [← P_turns hn h (k % T n ps) (k / T n ps), e]
theorem P_T {n : Nat} (hn : Sz n) {ps : List (List Nat)} (h : isPr n ps) : P n ps (T n ps) = idp n := by
  have := P_turn hn h 0
  rw [Nat.zero_add] at this
  exact this
/-! ### what the program tells of programs -/
theorem eFirst {n : Nat} (hn : Sz n) {ps : List (List Nat)} (h : isPr n ps) {ρ : DE} (h0 : ρ[0]? = some (.dat (prog ps))) : eCall m_first_pattern (eCons (eCall cLen (eCons (e2 dIx (eVar 0) (eC (.int 0))) eNil)) eNil) ρ = some (pat (idp n)) := by
  simp only [v_var, v_own, v_varOf, v_ownOf, v_c, v_1, v_2, v_nil, v_cons, v_call, v_tup, v_lst, v_toL, v_ofL, v_toB, v_ofB, v_not, v_and, v_or, v_if, v_chain, v_ixL, v_part, v_tupL, v_l2, v_yes, v_mNil, v_mDat, v_mOwn, v_divmod, v_asL, v_asT, v_asB, v_asI, v_add, v_sub, v_neg, v_lt, v_le, v_gt, v_ge, v_isB, v_notB, v_isN, v_notN, v_isNi, v_isNn, bS, lineOk0, dIx_l, dIx_t, cLen_l, cLen_t, asSeq_l, asSeq_t, wipeD, setM, List.getElem?_cons_zero, List.getElem?_cons_succ, List.set_cons_zero, List.set_cons_succ, if_true, if_false, ite_true, ite_false, Bool.false_eq_true, Bool.not_true, Bool.not_false, h0, dIx_prog0 h.pos, cLen_pat (nth_P h h.pos), first_pattern_ok hn]
theorem range_get' {α : Type} {u : α → D} {xs : List α} {i : Nat} {d : D} (h : (xs.map u)[i]? = some d) : ∃ hi : i < xs.length, d = u xs[i] := by
  rw [List.getElem?_map] at h
  by_cases hi : i < xs.length
  · rw [List.getElem?_eq_getElem hi] at h
    cases h
    exact ⟨hi, rfl⟩
  · rw [List.getElem?_eq_none (by omega)] at h
    cases h
theorem find_product_ok {n : Nat} (hn : Sz n) {ps : List (List Nat)} (h : isPr n ps) : m_find_product [prog ps] = some (pat (prod n ps)) := by
  unfold m_find_product
  rw [run_eq]
  show outO (b_find_product [.dat (prog ps), .bot, .bot]) = _
  unfold b_find_product
  rw [sSeq_nx (sSet_ok (d := pat (idp n)) (eFirst hn h rfl))]
  simp only [setM, List.set_cons_succ, List.set_cons_zero]
  obtain ⟨ρ', h2, ⟨z, rfl⟩⟩ := for_inv (h := hName 2) (b := sSet 1 (eCall m_find_combined (eCons (eVar 1) (eCons (eVar 2) eNil)))) (fun i ρ => ∃ z : DV, ρ = [.dat (prog ps), .dat (pat (P n ps i)), z])
    (ds := ps.map pat) (k := 0) (ρ := [.dat (prog ps), .dat (pat (idp n)), .bot]) ⟨.bot, rfl⟩
    (fun i d ρ hd ⟨z, e⟩ => by
      subst e
      obtain ⟨hi, rfl⟩ := range_get' hd
      rw [Nat.zero_add]
      have e : ps[i] = nth ps (i % ps.length) := by
        unfold nth
        rw [Nat.mod_eq_of_lt hi, List.getD_eq_getElem?_getD, List.getElem?_eq_getElem hi]; rfl
      refine ⟨_, [.dat (prog ps), .dat (pat (P n ps (i + 1))), .dat (pat ps[i])], rfl, .inl (sSet_ok (d := pat (P n ps (i + 1))) ?_), _, rfl⟩
      simp only [v_var, v_own, v_varOf, v_ownOf, v_c, v_1, v_2, v_nil, v_cons, v_call, v_tup, v_lst, v_toL, v_ofL, v_toB, v_ofB, v_not, v_and, v_or, v_if, v_chain, v_ixL, v_part, v_tupL, v_l2, v_yes, v_mNil, v_mDat, v_mOwn, v_divmod, v_asL, v_asT, v_asB, v_asI, v_add, v_sub, v_neg, v_lt, v_le, v_gt, v_ge, v_isB, v_notB, v_isN, v_notN, v_isNi, v_isNn, bS, lineOk0, dIx_l, dIx_t, cLen_l, cLen_t, asSeq_l, asSeq_t, wipeD, setM, List.getElem?_cons_zero, List.getElem?_cons_succ, List.set_cons_zero, List.set_cons_succ, if_true, if_false, ite_true, ite_false, Bool.false_eq_true, Bool.not_true, Bool.not_false]
      show m_find_combined [pat (P n ps i), pat ps[i]] = _
      rw [find_combined_ok hn (P_P h i) (h.all _ (List.getElem_mem hi)), e]
      rfl)
  rw [sSeq_nx ((sFor_ok (by simp only [v_var, v_own, v_varOf, v_ownOf, v_c, v_1, v_2, v_nil, v_cons, v_call, v_tup, v_lst, v_toL, v_ofL, v_toB, v_ofB, v_not, v_and, v_or, v_if, v_chain, v_ixL, v_part, v_tupL, v_l2, v_yes, v_mNil, v_mDat, v_mOwn, v_divmod, v_asL, v_asT, v_asB, v_asI, v_add, v_sub, v_neg, v_lt, v_le, v_gt, v_ge, v_isB, v_notB, v_isN, v_notN, v_isNi, v_isNn, bS, lineOk0, dIx_l, dIx_t, cLen_l, cLen_t, asSeq_l, asSeq_t, wipeD, setM, List.getElem?_cons_zero, List.getElem?_cons_succ, List.set_cons_zero, List.set_cons_succ, if_true, if_false, ite_true, ite_false, Bool.false_eq_true, Bool.not_true, Bool.not_false, asSeq_prog])).trans h2), sRet_ok (d := pat (prod n ps)) (by simp only [v_var, v_own, v_varOf, v_ownOf, v_c, v_1, v_2, v_nil, v_cons, v_call, v_tup, v_lst, v_toL, v_ofL, v_toB, v_ofB, v_not, v_and, v_or, v_if, v_chain, v_ixL, v_part, v_tupL, v_l2, v_yes, v_mNil, v_mDat, v_mOwn, v_divmod, v_asL, v_asT, v_asB, v_asI, v_add, v_sub, v_neg, v_lt, v_le, v_gt, v_ge, v_isB, v_notB, v_isN, v_notN, v_isNi, v_isNn, bS, lineOk0, dIx_l, dIx_t, cLen_l, cLen_t, asSeq_l, asSeq_t, wipeD, setM, List.getElem?_cons_zero, List.getElem?_cons_succ, List.set_cons_zero, List.set_cons_succ, if_true, if_false, ite_true, ite_false, Bool.false_eq_true, Bool.not_true, Bool.not_false]; rw [Nat.zero_add, List.length_map]; rfl)]
  rfl
theorem product_ok {n : Nat} (hn : Sz n) {ps : List (List Nat)} (h : isPr n ps) : m_product [prog ps] = some (pat (prod n ps)) := by
  unfold m_product
  rw [run_eq]
  show outO (b_product [.dat (prog ps)]) = _
  unfold b_product
  rw [sSeq_nx (sExpr_ok (d := .none) (by simp only [v_var, v_own, v_varOf, v_ownOf, v_c, v_1, v_2, v_nil, v_cons, v_call, v_tup, v_lst, v_toL, v_ofL, v_toB, v_ofB, v_not, v_and, v_or, v_if, v_chain, v_ixL, v_part, v_tupL, v_l2, v_yes, v_mNil, v_mDat, v_mOwn, v_divmod, v_asL, v_asT, v_asB, v_asI, v_add, v_sub, v_neg, v_lt, v_le, v_gt, v_ge, v_isB, v_notB, v_isN, v_notN, v_isNi, v_isNn, bS, lineOk0, dIx_l, dIx_t, cLen_l, cLen_t, asSeq_l, asSeq_t, wipeD, setM, List.getElem?_cons_zero, List.getElem?_cons_succ, List.set_cons_zero, List.set_cons_succ, if_true, if_false, ite_true, ite_false, Bool.false_eq_true, Bool.not_true, Bool.not_false, check_program_ok hn h])), sRet_ok (d := pat (prod n ps)) (by simp only [v_var, v_own, v_varOf, v_ownOf, v_c, v_1, v_2, v_nil, v_cons, v_call, v_tup, v_lst, v_toL, v_ofL, v_toB, v_ofB, v_not, v_and, v_or, v_if, v_chain, v_ixL, v_part, v_tupL, v_l2, v_yes, v_mNil, v_mDat, v_mOwn, v_divmod, v_asL, v_asT, v_asB, v_asI, v_add, v_sub, v_neg, v_lt, v_le, v_gt, v_ge, v_isB, v_notB, v_isN, v_notN, v_isNi, v_isNn, bS, lineOk0, dIx_l, dIx_t, cLen_l, cLen_t, asSeq_l, asSeq_t, wipeD, setM, List.getElem?_cons_zero, List.getElem?_cons_succ, List.set_cons_zero, List.set_cons_succ, if_true, if_false, ite_true, ite_false, Bool.false_eq_true, Bool.not_true, Bool.not_false, find_product_ok hn h])]
  rfl
end DL

namespace DL
open PySem PySem.Spec L2
/-! ### a full turn -/
theorem atI_last {xs : List D} {x : D} : atI (xs ++ [x]) (-1) = some x := by
  have e : ixN (xs ++ [x]).length (-1) = some xs.length := by
    unfold ixN
    rw [if_neg (by omega), if_pos (by rw [List.length_append]; simp; omega)]
    congr 1
    rw [List.length_append, List.length_singleton]; omega
  unfold atI
  rw [e, bS, List.getElem?_append_right (Nat.le_refl _), Nat.sub_self]
  rfl
theorem range_succ_map {α : Type} (f : Nat → α) (k : Nat) : (List.range (k + 1)).map f = (List.range k).map f ++ [f k] := by rw [List.range_succ, List.map_append]; rfl
theorem cut_last {xs : List D} {x : D} : cutD (xs ++ [x]) none (some (-1)) = xs := by
  unfold cutD HT.sIx
  have : ((-1 : Int) + ((xs ++ [x]).length : Nat)).toNat = xs.length := by rw [List.length_append, List.length_singleton]; omega
  simp only [List.drop_zero, Nat.sub_zero]
  rw [if_pos (by omega), this, List.take_left]
theorem cut_to {xs : List D} (k : Nat) : cutD xs none (some (k : Int)) = xs.take k := by
  unfold cutD
  rw [HT.sIx_none, List.drop_zero, Nat.sub_zero, HT.sIx_nat]
  by_cases h : k ≤ xs.length
  · rw [Nat.min_eq_left h]
  · rw [Nat.min_eq_right (by omega), List.take_of_length_le (Nat.le_refl _), List.take_of_length_le (by omega)]
/-- the list of what f gives at 0, 1, 2 and so on -/
def upto (m : Nat) (f : Nat → D) : List D := (List.range m).map f
theorem upto_succ (m : Nat) (f : Nat → D) : upto (m + 1) f = upto m f ++ [f m] := range_succ_map f m
theorem upto_len (m : Nat) (f : Nat → D) : (upto m f).length = m := by unfold upto; rw [List.length_map, List.length_range]
theorem upto_get {m k : Nat} (f : Nat → D) (h : k < m) : atI (upto m f) (k : Int) = some (f k) := by
  refine atI_ok ?_
  unfold upto
  rw [List.getElem?_map, List.getElem?_range h]; rfl
theorem sFz_ok {j : Nat} {g : DS} {ρ : DE} {ds : List D} (h : ρ[j]? = some (.own ds)) : sFz j g ρ = g (ρ.set j (.dat (.list ds))) := by
  unfold sFz fzD
  rw [h]
theorem full_turn_ok {n : Nat} (hn : Sz n) {ps : List (List Nat)} (h : isPr n ps) : m_full_turn [prog ps] = some (.list (upto (T n ps) fun k => pat (P n ps k))) := by
  unfold m_full_turn
  rw [run_eq]
  show outO (b_full_turn [.dat (prog ps), .bot, .bot]) = _
  unfold b_full_turn
  have hl4 := h.le
  have hT := T_le hn h
  rw [sSeq_nx (sOwn_ok (d := upto 1 fun k => pat (P n ps k)) (by
    have e := eFirst hn h (ρ := [.dat (prog ps), .bot, .bot]) rfl
    rw [v_lst, v_cons, e, bS, v_nil, bS, bS, lineOk1]; rfl))]
  simp only [setM, List.set_cons_succ, List.set_cons_zero]
  obtain ⟨ρ', h2, ⟨z, rfl⟩⟩ := for_inv (h := hName 2) (b := sApp 1 (eCall m_find_combined (eCons (eIxL (eOwn 1) (e1 dNeg (eC (.int 1)))) (eCons (e2 dIx (eVar 0) (e2 dMod (eVar 2) (eCall cLen (eCons (eVar 0) eNil)))) eNil))))
    (fun i ρ => ∃ z : DV, ρ = [.dat (prog ps), .own (upto (i + 1) fun k => pat (P n ps k)), z])
    (ds := nums (List.range (T n ps))) (k := 0) (ρ := [.dat (prog ps), .own (upto 1 fun k => pat (P n ps k)), .bot]) ⟨.bot, rfl⟩
    (fun i d ρ hd ⟨z, e⟩ => by
      subst e
      obtain ⟨hi, rfl⟩ := range_get hd
      rw [Nat.zero_add]
      refine ⟨_, [.dat (prog ps), .own (upto (i + 1 + 1) fun k => pat (P n ps k)), .dat (.int (i : Int))], rfl, .inl ?_, _, rfl⟩
      show sApp 1 _ [.dat (prog ps), .own (upto (i + 1) fun k => pat (P n ps k)), .dat (.int (i : Int))] = _
      rw [sApp_ok (ds := upto (i + 1) fun k => pat (P n ps k)) (d := pat (P n ps (i + 1))) ?_ rfl (by rw [upto_len]; omega), upto_succ (i + 1)]
      · rfl
      have hat : atI (upto (i + 1) fun k => pat (P n ps k)) (-1) = some (pat (P n ps i)) := by rw [upto_succ, atI_last]
      simp only [v_var, v_own, v_varOf, v_ownOf, v_c, v_1, v_2, v_nil, v_cons, v_call, v_tup, v_lst, v_toL, v_ofL, v_toB, v_ofB, v_not, v_and, v_or, v_if, v_chain, v_ixL, v_part, v_tupL, v_l2, v_yes, v_mNil, v_mDat, v_mOwn, v_divmod, v_asL, v_asT, v_asB, v_asI, v_add, v_sub, v_neg, v_lt, v_le, v_gt, v_ge, v_isB, v_notB, v_isN, v_notN, v_isNi, v_isNn, bS, lineOk0, dIx_l, dIx_t, cLen_l, cLen_t, asSeq_l, asSeq_t, wipeD, setM, List.getElem?_cons_zero, List.getElem?_cons_succ, List.set_cons_zero, List.set_cons_succ, if_true, if_false, ite_true, ite_false, Bool.false_eq_true, Bool.not_true, Bool.not_false, hat, cLen_prog, modN i ps.length h.pos, dIx_prog (Nat.mod_lt i h.pos), find_combined_ok hn (P_P h i) (nth_P h (Nat.mod_lt i h.pos))]
      rfl)
  have hr : (e2 dMul (eCall cLen (eCons (eVar 0) eNil)) (eCall m_find_order (eCons (eCall m_find_product (eCons (eVar 0) eNil)) eNil))) [.dat (prog ps), .own (upto 1 fun k => pat (P n ps k)), .bot] = some (.int (T n ps : Nat)) := by
    simp only [v_var, v_own, v_varOf, v_ownOf, v_c, v_1, v_2, v_nil, v_cons, v_call, v_tup, v_lst, v_toL, v_ofL, v_toB, v_ofB, v_not, v_and, v_or, v_if, v_chain, v_ixL, v_part, v_tupL, v_l2, v_yes, v_mNil, v_mDat, v_mOwn, v_divmod, v_asL, v_asT, v_asB, v_asI, v_add, v_sub, v_neg, v_lt, v_le, v_gt, v_ge, v_isB, v_notB, v_isN, v_notN, v_isNi, v_isNn, bS, lineOk0, dIx_l, dIx_t, cLen_l, cLen_t, asSeq_l, asSeq_t, wipeD, setM, List.getElem?_cons_zero, List.getElem?_cons_succ, List.set_cons_zero, List.set_cons_succ, if_true, if_false, ite_true, ite_false, Bool.false_eq_true, Bool.not_true, Bool.not_false, cLen_prog, find_product_ok hn h, find_order_ok hn (prod_P h), mulN ps.length (ordN (prod n ps)) (by omega)]
    rfl
  rw [sSeq_nx ((sForR (T n ps) (by omega) hr).trans h2), nums_length, List.length_range, Nat.zero_add, sFz_ok rfl]
  simp only [setM, List.set_cons_succ, List.set_cons_zero]
  rw [sRet_ok (d := .list (upto (T n ps) fun k => pat (P n ps k))) (by
    rw [upto_succ, v_slice_l (ds := upto (T n ps) (fun k => pat (P n ps k)) ++ [pat (P n ps (T n ps))]) (l := none) (u := some (-1)) _ _ _ _ (by simp only [v_var, v_own, v_varOf, v_ownOf, v_c, v_1, v_2, v_nil, v_cons, v_call, v_tup, v_lst, v_toL, v_ofL, v_toB, v_ofB, v_not, v_and, v_or, v_if, v_chain, v_ixL, v_part, v_tupL, v_l2, v_yes, v_mNil, v_mDat, v_mOwn, v_divmod, v_asL, v_asT, v_asB, v_asI, v_add, v_sub, v_neg, v_lt, v_le, v_gt, v_ge, v_isB, v_notB, v_isN, v_notN, v_isNi, v_isNn, bS, lineOk0, dIx_l, dIx_t, cLen_l, cLen_t, asSeq_l, asSeq_t, wipeD, setM, List.getElem?_cons_zero, List.getElem?_cons_succ, List.set_cons_zero, List.set_cons_succ, if_true, if_false, ite_true, ite_false, Bool.false_eq_true, Bool.not_true, Bool.not_false]) rfl (by simp only [v_var, v_own, v_varOf, v_ownOf, v_c, v_1, v_2, v_nil, v_cons, v_call, v_tup, v_lst, v_toL, v_ofL, v_toB, v_ofB, v_not, v_and, v_or, v_if, v_chain, v_ixL, v_part, v_tupL, v_l2, v_yes, v_mNil, v_mDat, v_mOwn, v_divmod, v_asL, v_asT, v_asB, v_asI, v_add, v_sub, v_neg, v_lt, v_le, v_gt, v_ge, v_isB, v_notB, v_isN, v_notN, v_isNi, v_isNn, bS, lineOk0, dIx_l, dIx_t, cLen_l, cLen_t, asSeq_l, asSeq_t, wipeD, setM, List.getElem?_cons_zero, List.getElem?_cons_succ, List.set_cons_zero, List.set_cons_succ, if_true, if_false, ite_true, ite_false, Bool.false_eq_true, Bool.not_true, Bool.not_false]), cut_last])]
  rfl
theorem cLen_upto (m : Nat) (f : Nat → D) : cLen [.list (upto m f)] = some (.int (m : Int)) := by rw [cLen_l, upto_len]
theorem dIx_upto {m k : Nat} (f : Nat → D) (h : k < m) : dIx (.list (upto m f)) (.int (k : Int)) = some (f k) := by rw [dIx_l, upto_get f h]
theorem find_places_ok {n : Nat} (hn : Sz n) {ps : List (List Nat)} (h : isPr n ps) (k : Nat) : m_find_places [prog ps, .int (k : Int)] = some (pat (P n ps k)) := by
  unfold m_find_places
  rw [run_eq]
  show outO (b_find_places [.dat (prog ps), .dat (.int (k : Int)), .bot]) = _
  unfold b_find_places
  have hk : k % T n ps < T n ps := Nat.mod_lt _ (T_pos hn h)
  rw [sSeq_nx (sSet_ok (d := .list (upto (T n ps) fun k => pat (P n ps k))) (by simp only [v_var, v_own, v_varOf, v_ownOf, v_c, v_1, v_2, v_nil, v_cons, v_call, v_tup, v_lst, v_toL, v_ofL, v_toB, v_ofB, v_not, v_and, v_or, v_if, v_chain, v_ixL, v_part, v_tupL, v_l2, v_yes, v_mNil, v_mDat, v_mOwn, v_divmod, v_asL, v_asT, v_asB, v_asI, v_add, v_sub, v_neg, v_lt, v_le, v_gt, v_ge, v_isB, v_notB, v_isN, v_notN, v_isNi, v_isNn, bS, lineOk0, dIx_l, dIx_t, cLen_l, cLen_t, asSeq_l, asSeq_t, wipeD, setM, List.getElem?_cons_zero, List.getElem?_cons_succ, List.set_cons_zero, List.set_cons_succ, if_true, if_false, ite_true, ite_false, Bool.false_eq_true, Bool.not_true, Bool.not_false, full_turn_ok hn h]))]
  simp only [setM, List.set_cons_succ, List.set_cons_zero]
  rw [sRet_ok (d := pat (P n ps k)) (by
    simp only [v_var, v_own, v_varOf, v_ownOf, v_c, v_1, v_2, v_nil, v_cons, v_call, v_tup, v_lst, v_toL, v_ofL, v_toB, v_ofB, v_not, v_and, v_or, v_if, v_chain, v_ixL, v_part, v_tupL, v_l2, v_yes, v_mNil, v_mDat, v_mOwn, v_divmod, v_asL, v_asT, v_asB, v_asI, v_add, v_sub, v_neg, v_lt, v_le, v_gt, v_ge, v_isB, v_notB, v_isN, v_notN, v_isNi, v_isNn, bS, lineOk0, dIx_l, dIx_t, cLen_l, cLen_t, asSeq_l, asSeq_t, wipeD, setM, List.getElem?_cons_zero, List.getElem?_cons_succ, List.set_cons_zero, List.set_cons_succ, if_true, if_false, ite_true, ite_false, Bool.false_eq_true, Bool.not_true, Bool.not_false, upto_len, modN k _ (T_pos hn h)]
    rw [upto_get _ hk, P_mod hn h])]
  rfl
theorem isK_int (i : Int) : dIsK "int" (.int i) = some true := rfl
theorem isK_intb (i : Int) : dIsK "bool" (.int i) = some false := rfl
theorem is_int_ok (i a b : Int) : m_is_int [.int i, .int a, .int b] = some (.bool (decide (a ≤ i) && decide (i ≤ b))) := by
  unfold m_is_int
  rw [run_eq]
  show outO (b_is_int [.dat (.int i), .dat (.int a), .dat (.int b)]) = _
  unfold b_is_int
  rw [sRet_ok (d := .bool (decide (a ≤ i) && decide (i ≤ b))) (by
    simp only [v_var, v_own, v_varOf, v_ownOf, v_c, v_1, v_2, v_nil, v_cons, v_call, v_tup, v_lst, v_toL, v_ofL, v_toB, v_ofB, v_not, v_and, v_or, v_if, v_chain, v_ixL, v_part, v_tupL, v_l2, v_yes, v_mNil, v_mDat, v_mOwn, v_divmod, v_asL, v_asT, v_asB, v_asI, v_add, v_sub, v_neg, v_lt, v_le, v_gt, v_ge, v_isB, v_notB, v_isN, v_notN, v_isNi, v_isNn, bS, lineOk0, dIx_l, dIx_t, cLen_l, cLen_t, asSeq_l, asSeq_t, wipeD, setM, List.getElem?_cons_zero, List.getElem?_cons_succ, List.set_cons_zero, List.set_cons_succ, if_true, if_false, ite_true, ite_false, Bool.false_eq_true, Bool.not_true, Bool.not_false, isK_int, isK_intb]
    by_cases h : a ≤ i
    · simp only [v_var, v_own, v_varOf, v_ownOf, v_c, v_1, v_2, v_nil, v_cons, v_call, v_tup, v_lst, v_toL, v_ofL, v_toB, v_ofB, v_not, v_and, v_or, v_if, v_chain, v_ixL, v_part, v_tupL, v_l2, v_yes, v_mNil, v_mDat, v_mOwn, v_divmod, v_asL, v_asT, v_asB, v_asI, v_add, v_sub, v_neg, v_lt, v_le, v_gt, v_ge, v_isB, v_notB, v_isN, v_notN, v_isNi, v_isNn, bS, lineOk0, dIx_l, dIx_t, cLen_l, cLen_t, asSeq_l, asSeq_t, wipeD, setM, List.getElem?_cons_zero, List.getElem?_cons_succ, List.set_cons_zero, List.set_cons_succ, if_true, if_false, ite_true, ite_false, Bool.false_eq_true, Bool.not_true, Bool.not_false, h, decide_true, Bool.true_and]
    · simp only [v_var, v_own, v_varOf, v_ownOf, v_c, v_1, v_2, v_nil, v_cons, v_call, v_tup, v_lst, v_toL, v_ofL, v_toB, v_ofB, v_not, v_and, v_or, v_if, v_chain, v_ixL, v_part, v_tupL, v_l2, v_yes, v_mNil, v_mDat, v_mOwn, v_divmod, v_asL, v_asT, v_asB, v_asI, v_add, v_sub, v_neg, v_lt, v_le, v_gt, v_ge, v_isB, v_notB, v_isN, v_notN, v_isNi, v_isNn, bS, lineOk0, dIx_l, dIx_t, cLen_l, cLen_t, asSeq_l, asSeq_t, wipeD, setM, List.getElem?_cons_zero, List.getElem?_cons_succ, List.set_cons_zero, List.set_cons_succ, if_true, if_false, ite_true, ite_false, Bool.false_eq_true, Bool.not_true, Bool.not_false, h, decide_false, Bool.false_and])]
  rfl
theorem is_int_in {i a b : Int} (h1 : a ≤ i) (h2 : i ≤ b) : m_is_int [.int i, .int a, .int b] = some (.bool true) := by
  rw [is_int_ok, decide_eq_true h1, decide_eq_true h2]; rfl
theorem check_number_ok (k : Nat) (hk : k ≤ 1000000) : m_check_number [.int (k : Int)] = some .none := by
  unfold m_check_number
  rw [run_eq]
  show outO (b_check_number [.dat (.int (k : Int))]) = _
  unfold b_check_number
  rw [sIfN_f (by simp only [v_var, v_own, v_varOf, v_ownOf, v_c, v_1, v_2, v_nil, v_cons, v_call, v_tup, v_lst, v_toL, v_ofL, v_toB, v_ofB, v_not, v_and, v_or, v_if, v_chain, v_ixL, v_part, v_tupL, v_l2, v_yes, v_mNil, v_mDat, v_mOwn, v_divmod, v_asL, v_asT, v_asB, v_asI, v_add, v_sub, v_neg, v_lt, v_le, v_gt, v_ge, v_isB, v_notB, v_isN, v_notN, v_isNi, v_isNn, bS, lineOk0, dIx_l, dIx_t, cLen_l, cLen_t, asSeq_l, asSeq_t, wipeD, setM, List.getElem?_cons_zero, List.getElem?_cons_succ, List.set_cons_zero, List.set_cons_succ, if_true, if_false, ite_true, ite_false, Bool.false_eq_true, Bool.not_true, Bool.not_false, is_int_in (i := (k : Int)) (a := 0) (b := 1000000) (by omega) (by omega)])]
  rfl
theorem check_tyre_ok {n : Nat} {ps : List (List Nat)} (h : isPr n ps) {t : Nat} (ht : t < n) : m_check_tyre [prog ps, .int (t : Int)] = some .none := by
  unfold m_check_tyre
  rw [run_eq]
  show outO (b_check_tyre [.dat (prog ps), .dat (.int (t : Int))]) = _
  unfold b_check_tyre
  rw [sIfN_f (by simp only [v_var, v_own, v_varOf, v_ownOf, v_c, v_1, v_2, v_nil, v_cons, v_call, v_tup, v_lst, v_toL, v_ofL, v_toB, v_ofB, v_not, v_and, v_or, v_if, v_chain, v_ixL, v_part, v_tupL, v_l2, v_yes, v_mNil, v_mDat, v_mOwn, v_divmod, v_asL, v_asT, v_asB, v_asI, v_add, v_sub, v_neg, v_lt, v_le, v_gt, v_ge, v_isB, v_notB, v_isN, v_notN, v_isNi, v_isNn, bS, lineOk0, dIx_l, dIx_t, cLen_l, cLen_t, asSeq_l, asSeq_t, wipeD, setM, List.getElem?_cons_zero, List.getElem?_cons_succ, List.set_cons_zero, List.set_cons_succ, if_true, if_false, ite_true, ite_false, Bool.false_eq_true, Bool.not_true, Bool.not_false, dIx_prog0 h.pos, cLen_pat (nth_P h h.pos), is_int_in (i := (t : Int)) (a := 0) (b := (n : Int) - 1) (by omega) (by omega)])]
  rfl
theorem place_of_ok {n : Nat} (hn : Sz n) {ps : List (List Nat)} (h : isPr n ps) {t k : Nat} (ht : t < n) (hk : k ≤ 1000000) : m_place_of [prog ps, .int (t : Int), .int (k : Int)] = some (.int (((P n ps k).getD t 0 : Nat) : Int)) := by
  unfold m_place_of
  rw [run_eq]
  show outO (b_place_of [.dat (prog ps), .dat (.int (t : Int)), .dat (.int (k : Int))]) = _
  unfold b_place_of
  rw [sSeq_nx (sExpr_ok (d := .none) (by simp only [v_var, v_own, v_varOf, v_ownOf, v_c, v_1, v_2, v_nil, v_cons, v_call, v_tup, v_lst, v_toL, v_ofL, v_toB, v_ofB, v_not, v_and, v_or, v_if, v_chain, v_ixL, v_part, v_tupL, v_l2, v_yes, v_mNil, v_mDat, v_mOwn, v_divmod, v_asL, v_asT, v_asB, v_asI, v_add, v_sub, v_neg, v_lt, v_le, v_gt, v_ge, v_isB, v_notB, v_isN, v_notN, v_isNi, v_isNn, bS, lineOk0, dIx_l, dIx_t, cLen_l, cLen_t, asSeq_l, asSeq_t, wipeD, setM, List.getElem?_cons_zero, List.getElem?_cons_succ, List.set_cons_zero, List.set_cons_succ, if_true, if_false, ite_true, ite_false, Bool.false_eq_true, Bool.not_true, Bool.not_false, check_program_ok hn h])), sSeq_nx (sExpr_ok (d := .none) (by simp only [v_var, v_own, v_varOf, v_ownOf, v_c, v_1, v_2, v_nil, v_cons, v_call, v_tup, v_lst, v_toL, v_ofL, v_toB, v_ofB, v_not, v_and, v_or, v_if, v_chain, v_ixL, v_part, v_tupL, v_l2, v_yes, v_mNil, v_mDat, v_mOwn, v_divmod, v_asL, v_asT, v_asB, v_asI, v_add, v_sub, v_neg, v_lt, v_le, v_gt, v_ge, v_isB, v_notB, v_isN, v_notN, v_isNi, v_isNn, bS, lineOk0, dIx_l, dIx_t, cLen_l, cLen_t, asSeq_l, asSeq_t, wipeD, setM, List.getElem?_cons_zero, List.getElem?_cons_succ, List.set_cons_zero, List.set_cons_succ, if_true, if_false, ite_true, ite_false, Bool.false_eq_true, Bool.not_true, Bool.not_false, check_tyre_ok h ht])), sSeq_nx (sExpr_ok (d := .none) (by simp only [v_var, v_own, v_varOf, v_ownOf, v_c, v_1, v_2, v_nil, v_cons, v_call, v_tup, v_lst, v_toL, v_ofL, v_toB, v_ofB, v_not, v_and, v_or, v_if, v_chain, v_ixL, v_part, v_tupL, v_l2, v_yes, v_mNil, v_mDat, v_mOwn, v_divmod, v_asL, v_asT, v_asB, v_asI, v_add, v_sub, v_neg, v_lt, v_le, v_gt, v_ge, v_isB, v_notB, v_isN, v_notN, v_isNi, v_isNn, bS, lineOk0, dIx_l, dIx_t, cLen_l, cLen_t, asSeq_l, asSeq_t, wipeD, setM, List.getElem?_cons_zero, List.getElem?_cons_succ, List.set_cons_zero, List.set_cons_succ, if_true, if_false, ite_true, ite_false, Bool.false_eq_true, Bool.not_true, Bool.not_false, check_number_ok k hk])),
    sRet_ok (by simp only [v_var, v_own, v_varOf, v_ownOf, v_c, v_1, v_2, v_nil, v_cons, v_call, v_tup, v_lst, v_toL, v_ofL, v_toB, v_ofB, v_not, v_and, v_or, v_if, v_chain, v_ixL, v_part, v_tupL, v_l2, v_yes, v_mNil, v_mDat, v_mOwn, v_divmod, v_asL, v_asT, v_asB, v_asI, v_add, v_sub, v_neg, v_lt, v_le, v_gt, v_ge, v_isB, v_notB, v_isN, v_notN, v_isNi, v_isNn, bS, lineOk0, dIx_l, dIx_t, cLen_l, cLen_t, asSeq_l, asSeq_t, wipeD, setM, List.getElem?_cons_zero, List.getElem?_cons_succ, List.set_cons_zero, List.set_cons_succ, if_true, if_false, ite_true, ite_false, Bool.false_eq_true, Bool.not_true, Bool.not_false, find_places_ok hn h k, dIx_p (P_P h k) ht]; rfl)]
  rfl
theorem arrangement_ok {n : Nat} (hn : Sz n) {ps : List (List Nat)} (h : isPr n ps) {k : Nat} (hk : k ≤ 1000000) : m_arrangement [prog ps, .int (k : Int)] = some (pat (inv (P n ps k))) := by
  unfold m_arrangement
  rw [run_eq]
  show outO (b_arrangement [.dat (prog ps), .dat (.int (k : Int))]) = _
  unfold b_arrangement
  rw [sSeq_nx (sExpr_ok (d := .none) (by simp only [v_var, v_own, v_varOf, v_ownOf, v_c, v_1, v_2, v_nil, v_cons, v_call, v_tup, v_lst, v_toL, v_ofL, v_toB, v_ofB, v_not, v_and, v_or, v_if, v_chain, v_ixL, v_part, v_tupL, v_l2, v_yes, v_mNil, v_mDat, v_mOwn, v_divmod, v_asL, v_asT, v_asB, v_asI, v_add, v_sub, v_neg, v_lt, v_le, v_gt, v_ge, v_isB, v_notB, v_isN, v_notN, v_isNi, v_isNn, bS, lineOk0, dIx_l, dIx_t, cLen_l, cLen_t, asSeq_l, asSeq_t, wipeD, setM, List.getElem?_cons_zero, List.getElem?_cons_succ, List.set_cons_zero, List.set_cons_succ, if_true, if_false, ite_true, ite_false, Bool.false_eq_true, Bool.not_true, Bool.not_false, check_program_ok hn h])), sSeq_nx (sExpr_ok (d := .none) (by simp only [v_var, v_own, v_varOf, v_ownOf, v_c, v_1, v_2, v_nil, v_cons, v_call, v_tup, v_lst, v_toL, v_ofL, v_toB, v_ofB, v_not, v_and, v_or, v_if, v_chain, v_ixL, v_part, v_tupL, v_l2, v_yes, v_mNil, v_mDat, v_mOwn, v_divmod, v_asL, v_asT, v_asB, v_asI, v_add, v_sub, v_neg, v_lt, v_le, v_gt, v_ge, v_isB, v_notB, v_isN, v_notN, v_isNi, v_isNn, bS, lineOk0, dIx_l, dIx_t, cLen_l, cLen_t, asSeq_l, asSeq_t, wipeD, setM, List.getElem?_cons_zero, List.getElem?_cons_succ, List.set_cons_zero, List.set_cons_succ, if_true, if_false, ite_true, ite_false, Bool.false_eq_true, Bool.not_true, Bool.not_false, check_number_ok k hk])),
    sRet_ok (by simp only [v_var, v_own, v_varOf, v_ownOf, v_c, v_1, v_2, v_nil, v_cons, v_call, v_tup, v_lst, v_toL, v_ofL, v_toB, v_ofB, v_not, v_and, v_or, v_if, v_chain, v_ixL, v_part, v_tupL, v_l2, v_yes, v_mNil, v_mDat, v_mOwn, v_divmod, v_asL, v_asT, v_asB, v_asI, v_add, v_sub, v_neg, v_lt, v_le, v_gt, v_ge, v_isB, v_notB, v_isN, v_notN, v_isNi, v_isNn, bS, lineOk0, dIx_l, dIx_t, cLen_l, cLen_t, asSeq_l, asSeq_t, wipeD, setM, List.getElem?_cons_zero, List.getElem?_cons_succ, List.set_cons_zero, List.set_cons_succ, if_true, if_false, ite_true, ite_false, Bool.false_eq_true, Bool.not_true, Bool.not_false, find_places_ok hn h k, find_reversed_ok hn (P_P h k)]; rfl)]
  rfl
/-! ### sorted, each once -/
def sset (l : List Nat) : List D := (isort (dist (l.map fun (x : Nat) => (x : Int)))).map PyData.int
theorem lSortSet_ok {l : List Nat} (h : l.length < 64) : lSortSet (.list (nums l)) = some (sset l) := by
  have hd : (dist (l.map fun (x : Nat) => (x : Int))).length < 64 := by
    have := len_sub (nodup_dist (l.map fun (x : Nat) => (x : Int))) (fun k hk => mem_dist.mp hk)
    rw [List.length_map] at this
    omega
  unfold lSortSet asSet
  rw [asSeq_l, bS, asIs_nums, bS, if_pos (by rw [List.length_map]; omega), bS, if_pos hd]
  rfl
theorem find_visited_ok {n : Nat} (hn : Sz n) {ps : List (List Nat)} (h : isPr n ps) {t : Nat} (ht : t < n) : m_find_visited [prog ps, .int (t : Int)] = some (.list (sset ((List.range (T n ps)).map fun k => (P n ps k).getD t 0))) := by
  unfold m_find_visited
  rw [run_eq]
  show outO (b_find_visited [.dat (prog ps), .dat (.int (t : Int)), .bot]) = _
  unfold b_find_visited
  have hT := T_le hn h
  have hc : eLc [2] (e1 asSeq (eCall m_full_turn (eCons (eVar 0) eNil))) (hName 2) eYes (e2 dIx (eVar 2) (eVar 1)) [.dat (prog ps), .dat (.int (t : Int)), .bot] = some ((List.range (T n ps)).map fun k => PyData.int (((P n ps k).getD t 0 : Nat) : Int)) :=
    lc_map (fun k => pat (P n ps k)) _ (by rw [List.length_range]; omega) (by simp only [v_var, v_own, v_varOf, v_ownOf, v_c, v_1, v_2, v_nil, v_cons, v_call, v_tup, v_lst, v_toL, v_ofL, v_toB, v_ofB, v_not, v_and, v_or, v_if, v_chain, v_ixL, v_part, v_tupL, v_l2, v_yes, v_mNil, v_mDat, v_mOwn, v_divmod, v_asL, v_asT, v_asB, v_asI, v_add, v_sub, v_neg, v_lt, v_le, v_gt, v_ge, v_isB, v_notB, v_isN, v_notN, v_isNi, v_isNn, bS, lineOk0, dIx_l, dIx_t, cLen_l, cLen_t, asSeq_l, asSeq_t, wipeD, setM, List.getElem?_cons_zero, List.getElem?_cons_succ, List.set_cons_zero, List.set_cons_succ, if_true, if_false, ite_true, ite_false, Bool.false_eq_true, Bool.not_true, Bool.not_false, full_turn_ok hn h]; rfl) fun k hk => by
      simp only [v_var, v_own, v_varOf, v_ownOf, v_c, v_1, v_2, v_nil, v_cons, v_call, v_tup, v_lst, v_toL, v_ofL, v_toB, v_ofB, v_not, v_and, v_or, v_if, v_chain, v_ixL, v_part, v_tupL, v_l2, v_yes, v_mNil, v_mDat, v_mOwn, v_divmod, v_asL, v_asT, v_asB, v_asI, v_add, v_sub, v_neg, v_lt, v_le, v_gt, v_ge, v_isB, v_notB, v_isN, v_notN, v_isNi, v_isNn, bS, lineOk0, dIx_l, dIx_t, cLen_l, cLen_t, asSeq_l, asSeq_t, wipeD, setM, List.getElem?_cons_zero, List.getElem?_cons_succ, List.set_cons_zero, List.set_cons_succ, if_true, if_false, ite_true, ite_false, Bool.false_eq_true, Bool.not_true, Bool.not_false, dIx_p (P_P h k) ht]
  rw [sRet_ok (d := .list (sset ((List.range (T n ps)).map fun k => (P n ps k).getD t 0))) (by
    simp only [v_var, v_own, v_varOf, v_ownOf, v_c, v_1, v_2, v_nil, v_cons, v_call, v_tup, v_lst, v_toL, v_ofL, v_toB, v_ofB, v_not, v_and, v_or, v_if, v_chain, v_ixL, v_part, v_tupL, v_l2, v_yes, v_mNil, v_mDat, v_mOwn, v_divmod, v_asL, v_asT, v_asB, v_asI, v_add, v_sub, v_neg, v_lt, v_le, v_gt, v_ge, v_isB, v_notB, v_isN, v_notN, v_isNi, v_isNn, bS, lineOk0, dIx_l, dIx_t, cLen_l, cLen_t, asSeq_l, asSeq_t, wipeD, setM, List.getElem?_cons_zero, List.getElem?_cons_succ, List.set_cons_zero, List.set_cons_succ, if_true, if_false, ite_true, ite_false, Bool.false_eq_true, Bool.not_true, Bool.not_false, hc]
    rw [← nums_mapN, lSortSet_ok (by rw [List.length_map, List.length_range]; omega), bS])]
  rfl
theorem visited_ok {n : Nat} (hn : Sz n) {ps : List (List Nat)} (h : isPr n ps) {t : Nat} (ht : t < n) : m_visited [prog ps, .int (t : Int)] = some (.list (sset ((List.range (T n ps)).map fun k => (P n ps k).getD t 0))) := by
  unfold m_visited
  rw [run_eq]
  show outO (b_visited [.dat (prog ps), .dat (.int (t : Int))]) = _
  unfold b_visited
  rw [sSeq_nx (sExpr_ok (d := .none) (by simp only [v_var, v_own, v_varOf, v_ownOf, v_c, v_1, v_2, v_nil, v_cons, v_call, v_tup, v_lst, v_toL, v_ofL, v_toB, v_ofB, v_not, v_and, v_or, v_if, v_chain, v_ixL, v_part, v_tupL, v_l2, v_yes, v_mNil, v_mDat, v_mOwn, v_divmod, v_asL, v_asT, v_asB, v_asI, v_add, v_sub, v_neg, v_lt, v_le, v_gt, v_ge, v_isB, v_notB, v_isN, v_notN, v_isNi, v_isNn, bS, lineOk0, dIx_l, dIx_t, cLen_l, cLen_t, asSeq_l, asSeq_t, wipeD, setM, List.getElem?_cons_zero, List.getElem?_cons_succ, List.set_cons_zero, List.set_cons_succ, if_true, if_false, ite_true, ite_false, Bool.false_eq_true, Bool.not_true, Bool.not_false, check_program_ok hn h])), sSeq_nx (sExpr_ok (d := .none) (by simp only [v_var, v_own, v_varOf, v_ownOf, v_c, v_1, v_2, v_nil, v_cons, v_call, v_tup, v_lst, v_toL, v_ofL, v_toB, v_ofB, v_not, v_and, v_or, v_if, v_chain, v_ixL, v_part, v_tupL, v_l2, v_yes, v_mNil, v_mDat, v_mOwn, v_divmod, v_asL, v_asT, v_asB, v_asI, v_add, v_sub, v_neg, v_lt, v_le, v_gt, v_ge, v_isB, v_notB, v_isN, v_notN, v_isNi, v_isNn, bS, lineOk0, dIx_l, dIx_t, cLen_l, cLen_t, asSeq_l, asSeq_t, wipeD, setM, List.getElem?_cons_zero, List.getElem?_cons_succ, List.set_cons_zero, List.set_cons_succ, if_true, if_false, ite_true, ite_false, Bool.false_eq_true, Bool.not_true, Bool.not_false, check_tyre_ok h ht])),
    sRet_ok (by simp only [v_var, v_own, v_varOf, v_ownOf, v_c, v_1, v_2, v_nil, v_cons, v_call, v_tup, v_lst, v_toL, v_ofL, v_toB, v_ofB, v_not, v_and, v_or, v_if, v_chain, v_ixL, v_part, v_tupL, v_l2, v_yes, v_mNil, v_mDat, v_mOwn, v_divmod, v_asL, v_asT, v_asB, v_asI, v_add, v_sub, v_neg, v_lt, v_le, v_gt, v_ge, v_isB, v_notB, v_isN, v_notN, v_isNi, v_isNn, bS, lineOk0, dIx_l, dIx_t, cLen_l, cLen_t, asSeq_l, asSeq_t, wipeD, setM, List.getElem?_cons_zero, List.getElem?_cons_succ, List.set_cons_zero, List.set_cons_succ, if_true, if_false, ite_true, ite_false, Bool.false_eq_true, Bool.not_true, Bool.not_false, find_visited_ok hn h ht]; rfl)]
  rfl
theorem go_everywhere_ok {n : Nat} (hn : Sz n) {ps : List (List Nat)} (h : isPr n ps) : m_go_everywhere [prog ps] = some (.bool ((List.range n).all fun t => decide ((sset ((List.range (T n ps)).map fun k => (P n ps k).getD t 0)).length = n))) := by
  unfold m_go_everywhere
  rw [run_eq]
  show outO (b_go_everywhere [.dat (prog ps), .bot, .bot]) = _
  unfold b_go_everywhere
  have h5 := hn.le
  rw [sSeq_nx (sExpr_ok (d := .none) (by simp only [v_var, v_own, v_varOf, v_ownOf, v_c, v_1, v_2, v_nil, v_cons, v_call, v_tup, v_lst, v_toL, v_ofL, v_toB, v_ofB, v_not, v_and, v_or, v_if, v_chain, v_ixL, v_part, v_tupL, v_l2, v_yes, v_mNil, v_mDat, v_mOwn, v_divmod, v_asL, v_asT, v_asB, v_asI, v_add, v_sub, v_neg, v_lt, v_le, v_gt, v_ge, v_isB, v_notB, v_isN, v_notN, v_isNi, v_isNn, bS, lineOk0, dIx_l, dIx_t, cLen_l, cLen_t, asSeq_l, asSeq_t, wipeD, setM, List.getElem?_cons_zero, List.getElem?_cons_succ, List.set_cons_zero, List.set_cons_succ, if_true, if_false, ite_true, ite_false, Bool.false_eq_true, Bool.not_true, Bool.not_false, check_program_ok hn h])), sSeq_nx (sSet_ok (d := .int (n : Int)) (by simp only [v_var, v_own, v_varOf, v_ownOf, v_c, v_1, v_2, v_nil, v_cons, v_call, v_tup, v_lst, v_toL, v_ofL, v_toB, v_ofB, v_not, v_and, v_or, v_if, v_chain, v_ixL, v_part, v_tupL, v_l2, v_yes, v_mNil, v_mDat, v_mOwn, v_divmod, v_asL, v_asT, v_asB, v_asI, v_add, v_sub, v_neg, v_lt, v_le, v_gt, v_ge, v_isB, v_notB, v_isN, v_notN, v_isNi, v_isNn, bS, lineOk0, dIx_l, dIx_t, cLen_l, cLen_t, asSeq_l, asSeq_t, wipeD, setM, List.getElem?_cons_zero, List.getElem?_cons_succ, List.set_cons_zero, List.set_cons_succ, if_true, if_false, ite_true, ite_false, Bool.false_eq_true, Bool.not_true, Bool.not_false, dIx_prog0 h.pos, cLen_pat (nth_P h h.pos)]))]
  simp only [setM, List.set_cons_succ, List.set_cons_zero]
  have hc : eLc [2] (e1 rng1 (eVar 1)) (hName 2) eYes (eOfB (e2 dEq (eCall cLen (eCons (eCall m_find_visited (eCons (eVar 0) (eCons (eVar 2) eNil))) eNil)) (eVar 1))) [.dat (prog ps), .dat (.int (n : Int)), .bot] = some ((List.range n).map fun t => PyData.bool (decide ((sset ((List.range (T n ps)).map fun k => (P n ps k).getD t 0)).length = n))) :=
    lc_rg (by omega) (by simp only [v_var, v_own, v_varOf, v_ownOf, v_c, v_1, v_2, v_nil, v_cons, v_call, v_tup, v_lst, v_toL, v_ofL, v_toB, v_ofB, v_not, v_and, v_or, v_if, v_chain, v_ixL, v_part, v_tupL, v_l2, v_yes, v_mNil, v_mDat, v_mOwn, v_divmod, v_asL, v_asT, v_asB, v_asI, v_add, v_sub, v_neg, v_lt, v_le, v_gt, v_ge, v_isB, v_notB, v_isN, v_notN, v_isNi, v_isNn, bS, lineOk0, dIx_l, dIx_t, cLen_l, cLen_t, asSeq_l, asSeq_t, wipeD, setM, List.getElem?_cons_zero, List.getElem?_cons_succ, List.set_cons_zero, List.set_cons_succ, if_true, if_false, ite_true, ite_false, Bool.false_eq_true, Bool.not_true, Bool.not_false]) _ fun t ht => by
      simp only [v_var, v_own, v_varOf, v_ownOf, v_c, v_1, v_2, v_nil, v_cons, v_call, v_tup, v_lst, v_toL, v_ofL, v_toB, v_ofB, v_not, v_and, v_or, v_if, v_chain, v_ixL, v_part, v_tupL, v_l2, v_yes, v_mNil, v_mDat, v_mOwn, v_divmod, v_asL, v_asT, v_asB, v_asI, v_add, v_sub, v_neg, v_lt, v_le, v_gt, v_ge, v_isB, v_notB, v_isN, v_notN, v_isNi, v_isNn, bS, lineOk0, dIx_l, dIx_t, cLen_l, cLen_t, asSeq_l, asSeq_t, wipeD, setM, List.getElem?_cons_zero, List.getElem?_cons_succ, List.set_cons_zero, List.set_cons_succ, if_true, if_false, ite_true, ite_false, Bool.false_eq_true, Bool.not_true, Bool.not_false, find_visited_ok hn h ht, dEq_int, Int.ofNat_inj]
  rw [sRet_ok (by simp only [v_var, v_own, v_varOf, v_ownOf, v_c, v_1, v_2, v_nil, v_cons, v_call, v_tup, v_lst, v_toL, v_ofL, v_toB, v_ofB, v_not, v_and, v_or, v_if, v_chain, v_ixL, v_part, v_tupL, v_l2, v_yes, v_mNil, v_mDat, v_mOwn, v_divmod, v_asL, v_asT, v_asB, v_asI, v_add, v_sub, v_neg, v_lt, v_le, v_gt, v_ge, v_isB, v_notB, v_isN, v_notN, v_isNi, v_isNn, bS, lineOk0, dIx_l, dIx_t, cLen_l, cLen_t, asSeq_l, asSeq_t, wipeD, setM, List.getElem?_cons_zero, List.getElem?_cons_succ, List.set_cons_zero, List.set_cons_succ, if_true, if_false, ite_true, ite_false, Bool.false_eq_true, Bool.not_true, Bool.not_false, hc, cAll_map]; rfl)]
  rfl
end DL

namespace DL
open PySem PySem.Spec L2
/-! ### a drawn program -/
theorem comp_nums_ex {α : Type} {h : D → DE → Option DE} {tt : DE → Option Bool} {el : DE → Option D} {ρ : DE} (Q : α → Prop) (f : α → D) {xs : List Nat} (H : ∀ i ∈ xs, ∃ ρ1 a, h (.int ((i : Nat) : Int)) ρ = some ρ1 ∧ tt ρ1 = some true ∧ el ρ1 = some (f a) ∧ Q a) :
    ∃ as : List α, as.length = xs.length ∧ (∀ a ∈ as, Q a) ∧ compD h tt el ρ (nums xs) = some (as.map f) := by
  have := comp_ex (h := h) (tt := tt) (el := el) (ρ := ρ) Q f (ds := nums xs) fun d hd => by
    obtain ⟨i, hi, rfl⟩ := mem_nums hd
    exact H i hi
  rw [nums_length] at this
  exact this
theorem lc_rg_ex {α : Type} {vs : List Nat} {j n : Nat} {g : DE → Option D} {el : DE → Option D} {ρ : DE} (hn : n ≤ 1000000) (hg : g ρ = some (.int (n : Int))) (Q : α → Prop) (f : α → D) (H : ∀ i, i < n → ∃ a, el ((wipeD ρ vs).set j (.dat (.int ((i : Nat) : Int)))) = some (f a) ∧ Q a) :
    ∃ as : List α, as.length = n ∧ (∀ a ∈ as, Q a) ∧ eLc vs (e1 rng1 g) (hName j) eYes el ρ = some (as.map f) := by
  rw [v_lc, e1_ok hg (rng1_ok n hn), bS, lineOk_ok (by rw [nums_length, List.length_range]; omega), bS]
  have := comp_nums_ex (h := hName j) (tt := eYes) (el := el) (ρ := wipeD ρ vs) Q f (xs := List.range n) fun i hi => by
    obtain ⟨a, h1, h2⟩ := H i (List.mem_range.mp hi)
    exact ⟨_, a, rfl, rfl, h1, h2⟩
  rw [List.length_range] at this
  exact this
theorem plan_ok (ns : List Int) (hl : ns.length ≤ 63) (k n most : Nat) (hk : k < 80000) (hn : Sz n) (hm : 0 < most) (hm4 : most ≤ 4) :
    ∃ ps : List (List Nat), isPr n ps ∧ ps.length ≤ most ∧ m__law_plan [script ns, .int (k : Int), .int (n : Int), .int (most : Int)] = some (prog ps) := by
  obtain ⟨r, hr, h1⟩ := pick_ok ns hl k most (by omega) hm
  unfold m__law_plan
  rw [run_eq]
  show ∃ ps : List (List Nat), isPr n ps ∧ ps.length ≤ most ∧ outO (b__law_plan [.dat (script ns), .dat (.int (k : Int)), .dat (.int (n : Int)), .dat (.int (most : Int)), .bot]) = some (prog ps)
  unfold b__law_plan
  have a1 : dAdd (.int 1) (.int (r : Int)) = some (.int ((1 + r : Nat) : Int)) := addN 1 r
  obtain ⟨ps, p1, p2, p3⟩ := lc_rg_ex (vs := [4]) (j := 4) (n := 1 + r) (g := e2 dAdd (eC (.int 1)) (eCall m__law_pick (eCons (eVar 0) (eCons (eVar 1) (eCons (eVar 3) eNil))))) (ρ := [.dat (script ns), .dat (.int (k : Int)), .dat (.int (n : Int)), .dat (.int (most : Int)), .bot])
    (el := eCall m__law_swap (eCons (eVar 0) (eCons (e2 dAdd (e2 dAdd (eVar 1) (eC (.int 1))) (e2 dMul (eC (.int 5)) (eVar 4))) (eCons (eVar 2) eNil)))) (by omega) (by
      rw [v_2, v_c, bS, v_call]
      simp only [v_var, v_own, v_varOf, v_ownOf, v_c, v_1, v_2, v_nil, v_cons, v_call, v_tup, v_lst, v_toL, v_ofL, v_toB, v_ofB, v_not, v_and, v_or, v_if, v_chain, v_ixL, v_part, v_tupL, v_l2, v_yes, v_mNil, v_mDat, v_mOwn, v_divmod, v_asL, v_asT, v_asB, v_asI, v_add, v_sub, v_neg, v_lt, v_le, v_gt, v_ge, v_isB, v_notB, v_isN, v_notN, v_isNi, v_isNn, bS, lineOk0, dIx_l, dIx_t, cLen_l, cLen_t, asSeq_l, asSeq_t, wipeD, setM, List.getElem?_cons_zero, List.getElem?_cons_succ, List.set_cons_zero, List.set_cons_succ, if_true, if_false, ite_true, ite_false, Bool.false_eq_true, Bool.not_true, Bool.not_false]
      rw [h1, bS, a1]) (isP n) pat fun i hi => by
      obtain ⟨p, hp, h2⟩ := swap_ok ns hl (k + 1 + 5 * i) n (by omega) hn
      refine ⟨p, ?_, hp⟩
      have m5 : dMul (.int 5) (.int (i : Int)) = some (.int ((5 * i : Nat) : Int)) := mulN 5 i (by omega)
      have ak : dAdd (.int (k : Int)) (.int 1) = some (.int ((k + 1 : Nat) : Int)) := addN k 1
      rw [v_call, v_cons, v_cons, v_2, v_2, v_2]
      simp only [v_var, v_varOf, v_c, v_cons, v_nil, bS, wipeD, List.getElem?_cons_zero, List.getElem?_cons_succ, List.set_cons_zero, List.set_cons_succ, m5, ak, addN]
      exact h2
  refine ⟨ps, ⟨by omega, by omega, p2⟩, by omega, ?_⟩
  rw [sRet_ok (d := prog ps) (by rw [v_tupL, p3, bS]; rfl)]
  rfl
/-! ### the tyres by their places -/
def row (n : Nat) (ps : List (List Nat)) (k : Nat) : List Nat := inv (P n ps k)
theorem inv_uniq {n : Nat} (hn : Sz n) {a b : List Nat} (ha : isP n a) (hb : isP n b) (h : comb a b = idp n) : b = inv a := by
  obtain ⟨ia, i1, i2, i3⟩ := inv_facts hn ha
  rw [← id_comb hb.len, ← i2, comb_assoc ia ha.len, h, comb_id ia]
theorem inv_comb {n : Nat} (hn : Sz n) {a b : List Nat} (ha : isP n a) (hb : isP n b) : inv (comb a b) = comb (inv b) (inv a) := by
  obtain ⟨ia, i1, i2, i3⟩ := inv_facts hn ha
  obtain ⟨ib, j1, j2, j3⟩ := inv_facts hn hb
  refine (inv_uniq hn (comb_P ha hb) (comb_P ib ia) ?_).symm
  rw [comb_assoc ha hb.len, ← comb_assoc hb ib.len, j1, id_comb ia.len, i1]
theorem inv_id {n : Nat} (hn : Sz n) : inv (idp n) = idp n := (inv_uniq hn (idp_P n) (idp_P n) (id_comb (idp_P n).len)).symm
theorem row_P {n : Nat} (hn : Sz n) {ps : List (List Nat)} (h : isPr n ps) (k : Nat) : isP n (row n ps k) := (inv_facts hn (P_P h k)).1
theorem row_succ {n : Nat} (hn : Sz n) {ps : List (List Nat)} (h : isPr n ps) (k : Nat) : row n ps (k + 1) = comb (inv (nth ps (k % ps.length))) (row n ps k) := inv_comb hn (P_P h k) (nth_P h (Nat.mod_lt _ h.pos))
theorem row_zero {n : Nat} (hn : Sz n) (ps : List (List Nat)) : row n ps 0 = idp n := inv_id hn
theorem sPut_ok {i : Nat} {gi ge : DE → Option D} {ρ : DE} {d : D} {k : Int} {ds : List D} {m : Nat} (h1 : ge ρ = some d) (h2 : gi ρ = some (.int k)) (h3 : ρ[i]? = some (.own ds)) (h4 : ixN ds.length k = some m) : sPut i gi ge ρ = .nx (ρ.set i (.own (ds.set m d))) := by
  have e : (gi ρ).bind asI = some k := by rw [h2]; rfl
  unfold sPut
  simp only [h1, e, h3, h4]
theorem few63 {k : Nat} (h : k ≤ 1000) : (-(2 ^ 63) ≤ (k : Int) ∧ (k : Int) < 2 ^ 63) := ⟨by omega, by omega⟩
theorem eRep_of {g : DE → Option (List D)} {h : DE → Option D} {ρ : DE} {xs : List D} {k : Int} (h1 : g ρ = some xs) (h2 : h ρ = some (.int k)) : eRep g h ρ = if (-(2 ^ 63) ≤ k ∧ k < 2 ^ 63) ∧ xs.length * k.toNat ≤ 16777216 then some (List.replicate k.toNat xs).flatten else none := by
  have e : (h ρ).bind asI = some k := by rw [h2]; rfl
  show ((g ρ).bind fun xs => ((h ρ).bind asI).bind fun k => _) = _
  rw [e, h1]
  rfl
theorem flat_rep {x : D} : ∀ k : Nat, (List.replicate k [x]).flatten = List.replicate k x
  | 0 => rfl
  | k + 1 => by rw [List.replicate_succ, List.replicate_succ, List.flatten_cons, flat_rep k]; rfl
theorem eRep_ok {g : DE → Option (List D)} {h : DE → Option D} {ρ : DE} {x : D} {k : Nat} (hk : k ≤ 1000) (h1 : g ρ = some [x]) (h2 : h ρ = some (.int (k : Int))) : eRep g h ρ = some (List.replicate k x) := by
  have e : [x].length * (k : Int).toNat ≤ 16777216 := by rw [Int.toNat_natCast, List.length_singleton]; omega
  refine ((eRep_of h1 h2).trans (if_pos ⟨few63 hk, e⟩)).trans ?_
  rw [Int.toNat_natCast, flat_rep]
theorem nums_rep (k x : Nat) : List.replicate k (PyData.int (x : Int)) = nums (List.replicate k x) := by unfold nums; rw [List.map_replicate]
theorem nums_zero (k : Nat) : List.replicate k (PyData.int 0) = nums (List.replicate k 0) := nums_rep k 0
theorem nums_set (p : List Nat) (i x : Nat) : (nums p).set i (.int (x : Int)) = nums (p.set i x) := by unfold nums; rw [List.map_set]
theorem getD_set_self {A : List Nat} {i x : Nat} (h : i < A.length) : (A.set i x).getD i 0 = x := by
  rw [List.getD_eq_getElem?_getD, List.getElem?_set_self h]; rfl
theorem getD_set_ne {A : List Nat} {i j x : Nat} (h : i ≠ j) : (A.set i x).getD j 0 = A.getD j 0 := by
  rw [List.getD_eq_getElem?_getD, List.getElem?_set_ne h, List.getD_eq_getElem?_getD]
def rowsD (n : Nat) (ps : List (List Nat)) (m : Nat) : List D := upto m fun k => .list (nums (row n ps k))
theorem rowsD_last (n : Nat) (ps : List (List Nat)) (k : Nat) : atI (rowsD n ps (k + 1)) (-1) = some (.list (nums (row n ps k))) := by
  unfold rowsD
  rw [upto_succ, atI_last]
theorem atI_nums' {n : Nat} {p : List Nat} (hp : isP n p) {i : Nat} (h : i < n) : atI (nums p) (i : Int) = some (.int ((p.getD i 0 : Nat) : Int)) := atI_nums (by rw [hp.len]; exact h)
/-- the tyres carried along: what stands at place x comes to place p x -/
theorem carry_ok {n : Nat} (hn : Sz n) {p cur : List Nat} (hp : isP n p) (hc : isP n cur) (d0 d1 d3 : DV) (found : List D) (z : DV) (hat : atI found (-1) = some (.list (nums cur))) :
    ∃ z', forD (hName 6) (sPut 5 (e2 dIx (eVar 4) (eVar 6)) (e2 dIx (eIxL (eOwn 2) (e1 dNeg (eC (.int 1)))) (eVar 6))) (nums (List.range n)) [d0, d1, .own found, d3, .dat (pat p), .own (nums (List.replicate n 0)), z] =
      .nx [d0, d1, .own found, d3, .dat (pat p), .own (nums (comb (inv p) cur)), z'] := by
  obtain ⟨ρ', h2, ⟨A, z', rfl, hA, hall⟩⟩ := for_inv (h := hName 6) (b := sPut 5 (e2 dIx (eVar 4) (eVar 6)) (e2 dIx (eIxL (eOwn 2) (e1 dNeg (eC (.int 1)))) (eVar 6)))
    (fun i ρ => ∃ (A : List Nat) (z : DV), ρ = [d0, d1, .own found, d3, .dat (pat p), .own (nums A), z] ∧ A.length = n ∧ ∀ s, s < i → A.getD (p.getD s 0) 0 = cur.getD s 0)
    (ds := nums (List.range n)) (k := 0) (ρ := [d0, d1, .own found, d3, .dat (pat p), .own (nums (List.replicate n 0)), z]) ⟨_, z, rfl, by rw [List.length_replicate], fun s hs => absurd hs (Nat.not_lt_zero _)⟩
    (fun i d ρ hd ⟨A, z, e, hA, hall⟩ => by
      subst e
      obtain ⟨hi, rfl⟩ := range_get hd
      rw [Nat.zero_add] at hall ⊢
      have hpi := getD_lt hp hi
      refine ⟨_, [d0, d1, .own found, d3, .dat (pat p), .own (nums (A.set (p.getD i 0) (cur.getD i 0))), .dat (.int (i : Int))], rfl, .inl ?_, _, _, rfl, by rw [List.length_set, hA], ?_⟩
      · show sPut 5 _ _ [d0, d1, .own found, d3, .dat (pat p), .own (nums A), .dat (.int (i : Int))] = _
        rw [sPut_ok (d := .int ((cur.getD i 0 : Nat) : Int)) (k := ((p.getD i 0 : Nat) : Int)) (ds := nums A) (m := p.getD i 0) (by simp only [v_var, v_own, v_varOf, v_ownOf, v_c, v_1, v_2, v_nil, v_cons, v_call, v_tup, v_lst, v_toL, v_ofL, v_toB, v_ofB, v_not, v_and, v_or, v_if, v_chain, v_ixL, v_part, v_tupL, v_l2, v_yes, v_mNil, v_mDat, v_mOwn, v_divmod, v_asL, v_asT, v_asB, v_asI, v_add, v_sub, v_neg, v_lt, v_le, v_gt, v_ge, v_isB, v_notB, v_isN, v_notN, v_isNi, v_isNn, bS, lineOk0, dIx_l, dIx_t, cLen_l, cLen_t, asSeq_l, asSeq_t, wipeD, setM, List.getElem?_cons_zero, List.getElem?_cons_succ, List.set_cons_zero, List.set_cons_succ, if_true, if_false, ite_true, ite_false, Bool.false_eq_true, Bool.not_true, Bool.not_false, hat, atI_nums' hc hi]) (by simp only [v_var, v_own, v_varOf, v_ownOf, v_c, v_1, v_2, v_nil, v_cons, v_call, v_tup, v_lst, v_toL, v_ofL, v_toB, v_ofB, v_not, v_and, v_or, v_if, v_chain, v_ixL, v_part, v_tupL, v_l2, v_yes, v_mNil, v_mDat, v_mOwn, v_divmod, v_asL, v_asT, v_asB, v_asI, v_add, v_sub, v_neg, v_lt, v_le, v_gt, v_ge, v_isB, v_notB, v_isN, v_notN, v_isNi, v_isNn, bS, lineOk0, dIx_l, dIx_t, cLen_l, cLen_t, asSeq_l, asSeq_t, wipeD, setM, List.getElem?_cons_zero, List.getElem?_cons_succ, List.set_cons_zero, List.set_cons_succ, if_true, if_false, ite_true, ite_false, Bool.false_eq_true, Bool.not_true, Bool.not_false, dIx_p hp hi]) rfl (ixN_ok (by rw [nums_length, hA]; exact hpi))]
        simp only [setM, List.set_cons_succ, List.set_cons_zero]
        rw [nums_set]
      · intro s hs
        by_cases hsi : s = i
        · subst hsi
          exact getD_set_self (by rw [hA]; exact hpi)
        · rw [getD_set_ne (fun e => hsi (getD_inj hp (by omega) hi e.symm))]
          exact hall s (by omega))
  rw [Nat.zero_add, nums_length, List.length_range] at hall
  refine ⟨z', h2.trans ?_⟩
  have e : A = comb (inv p) cur := by
    obtain ⟨ip, i1, i2, i3⟩ := inv_facts hn hp
    refine ext_getD (by rw [comb_len, ip.len, hA]) fun x hx => ?_
    rw [hA] at hx
    rw [comb_get cur (by rw [ip.len]; exact hx)]
    have hx2 := getD_lt ip hx
    rw [← hall _ hx2]
    have : p.getD ((inv p).getD x 0) 0 = x := by
      rw [← comb_get p (by rw [ip.len]; exact hx), i2, idp_get hx]
    rw [this]
  rw [e]
theorem walk_ok {n : Nat} (hn : Sz n) {ps : List (List Nat)} (h : isPr n ps) (m : Nat) (hm : m ≤ 100000) : m__law_walk [prog ps, .int (m : Int)] = some (.list (rowsD n ps (m + 1))) := by
  unfold m__law_walk
  rw [run_eq]
  show outO (b__law_walk [.dat (prog ps), .dat (.int (m : Int)), .bot, .bot, .bot, .bot, .bot]) = _
  unfold b__law_walk
  have hn5 := hn.le
  have hlen : ∀ ρ : DE, ρ[0]? = some (.dat (prog ps)) → eCall cLen (eCons (e2 dIx (eVar 0) (eC (.int 0))) eNil) ρ = some (.int (n : Int)) := fun ρ h0 => by
    simp only [v_var, v_own, v_varOf, v_ownOf, v_c, v_1, v_2, v_nil, v_cons, v_call, v_tup, v_lst, v_toL, v_ofL, v_toB, v_ofB, v_not, v_and, v_or, v_if, v_chain, v_ixL, v_part, v_tupL, v_l2, v_yes, v_mNil, v_mDat, v_mOwn, v_divmod, v_asL, v_asT, v_asB, v_asI, v_add, v_sub, v_neg, v_lt, v_le, v_gt, v_ge, v_isB, v_notB, v_isN, v_notN, v_isNi, v_isNn, bS, lineOk0, dIx_l, dIx_t, cLen_l, cLen_t, asSeq_l, asSeq_t, wipeD, setM, List.getElem?_cons_zero, List.getElem?_cons_succ, List.set_cons_zero, List.set_cons_succ, if_true, if_false, ite_true, ite_false, Bool.false_eq_true, Bool.not_true, Bool.not_false, h0, dIx_prog0 h.pos, cLen_pat (nth_P h h.pos)]
  rw [sSeq_nx (sOwn_ok (d := rowsD n ps 1) (by
    have e := rgN_ok n (by omega) (hlen [.dat (prog ps), .dat (.int (m : Int)), .bot, .bot, .bot, .bot, .bot] rfl)
    rw [v_lst, v_cons, v_ofL, e, bS, v_nil, bS, bS, bS, lineOk1]
    show _ = some [PyData.list (nums (row n ps 0))]
    rw [row_zero hn]; rfl))]
  simp only [setM, List.set_cons_succ, List.set_cons_zero]
  obtain ⟨ρ', h2, ⟨z3, z4, z5, z6, rfl⟩⟩ := for_inv (h := hName 3) (b := sSeq (sPar [4, 5] (mDat (e2 dIx (eVar 0) (e2 dMod (eVar 3) (eCall cLen (eCons (eVar 0) eNil)))) (mOwn (eRep (eLst (eCons (eC (.int 0)) eNil)) (eCall cLen (eCons (e2 dIx (eVar 0) (eC (.int 0))) eNil))) mNil)))
  (sSeq (sFor (e1 rng1 (eCall cLen (eCons (eVar 4) eNil))) (hName 6)
  (sPut 5 (e2 dIx (eVar 4) (eVar 6)) (e2 dIx (eIxL (eOwn 2) (e1 dNeg (eC (.int 1)))) (eVar 6))))
  (sFz 5 (sApp 2 (eVar 5)))))
    (fun i ρ => ∃ z3 z4 z5 z6 : DV, ρ = [.dat (prog ps), .dat (.int (m : Int)), .own (rowsD n ps (i + 1)), z3, z4, z5, z6])
    (ds := nums (List.range m)) (k := 0) (ρ := [.dat (prog ps), .dat (.int (m : Int)), .own (rowsD n ps 1), .bot, .bot, .bot, .bot]) ⟨.bot, .bot, .bot, .bot, rfl⟩
    (fun i d ρ hd ⟨z3, z4, z5, z6, e⟩ => by
      subst e
      obtain ⟨hi, rfl⟩ := range_get hd
      rw [Nat.zero_add]
      have hmod := Nat.mod_lt i h.pos
      have hp := nth_P h hmod
      obtain ⟨z', hc⟩ := carry_ok hn hp (row_P hn h i) (.dat (prog ps)) (.dat (.int (m : Int))) (.dat (.int (i : Int))) (rowsD n ps (i + 1)) z6 (rowsD_last n ps i)
      refine ⟨_, [.dat (prog ps), .dat (.int (m : Int)), .own (rowsD n ps (i + 1 + 1)), .dat (.int (i : Int)), .dat (pat (nth ps (i % ps.length))), .dat (.list (nums (row n ps (i + 1)))), z'], rfl, .inl ?_, _, _, _, _, rfl⟩
      show sSeq _ _ [.dat (prog ps), .dat (.int (m : Int)), .own (rowsD n ps (i + 1)), .dat (.int (i : Int)), z4, z5, z6] = _
      rw [sSeq_nx (sPar_ok (xs := [.dat (pat (nth ps (i % ps.length))), .own (nums (List.replicate n 0))]) (by
        have e := eRep_ok (g := eLst (eCons (eC (.int 0)) eNil)) (x := .int 0) (k := n) (ρ := [.dat (prog ps), .dat (.int (m : Int)), .own (rowsD n ps (i + 1)), .dat (.int (i : Int)), z4, z5, z6]) (by omega) (by simp only [v_var, v_own, v_varOf, v_ownOf, v_c, v_1, v_2, v_nil, v_cons, v_call, v_tup, v_lst, v_toL, v_ofL, v_toB, v_ofB, v_not, v_and, v_or, v_if, v_chain, v_ixL, v_part, v_tupL, v_l2, v_yes, v_mNil, v_mDat, v_mOwn, v_divmod, v_asL, v_asT, v_asB, v_asI, v_add, v_sub, v_neg, v_lt, v_le, v_gt, v_ge, v_isB, v_notB, v_isN, v_notN, v_isNi, v_isNn, bS, lineOk0, dIx_l, dIx_t, cLen_l, cLen_t, asSeq_l, asSeq_t, wipeD, setM, List.getElem?_cons_zero, List.getElem?_cons_succ, List.set_cons_zero, List.set_cons_succ, if_true, if_false, ite_true, ite_false, Bool.false_eq_true, Bool.not_true, Bool.not_false, lineOk1]) (hlen _ rfl)
        rw [v_mDat, v_mOwn, e, nums_zero n]
        simp only [v_var, v_own, v_varOf, v_ownOf, v_c, v_1, v_2, v_nil, v_cons, v_call, v_tup, v_lst, v_toL, v_ofL, v_toB, v_ofB, v_not, v_and, v_or, v_if, v_chain, v_ixL, v_part, v_tupL, v_l2, v_yes, v_mNil, v_mDat, v_mOwn, v_divmod, v_asL, v_asT, v_asB, v_asI, v_add, v_sub, v_neg, v_lt, v_le, v_gt, v_ge, v_isB, v_notB, v_isN, v_notN, v_isNi, v_isNn, bS, lineOk0, dIx_l, dIx_t, cLen_l, cLen_t, asSeq_l, asSeq_t, wipeD, setM, List.getElem?_cons_zero, List.getElem?_cons_succ, List.set_cons_zero, List.set_cons_succ, if_true, if_false, ite_true, ite_false, Bool.false_eq_true, Bool.not_true, Bool.not_false, cLen_prog, modN i ps.length h.pos, dIx_prog hmod]))]
      simp only [setM, List.set_cons_succ, List.set_cons_zero]
      rw [sSeq_nx ((sForR n (by omega) (by simp only [v_var, v_own, v_varOf, v_ownOf, v_c, v_1, v_2, v_nil, v_cons, v_call, v_tup, v_lst, v_toL, v_ofL, v_toB, v_ofB, v_not, v_and, v_or, v_if, v_chain, v_ixL, v_part, v_tupL, v_l2, v_yes, v_mNil, v_mDat, v_mOwn, v_divmod, v_asL, v_asT, v_asB, v_asI, v_add, v_sub, v_neg, v_lt, v_le, v_gt, v_ge, v_isB, v_notB, v_isN, v_notN, v_isNi, v_isNn, bS, lineOk0, dIx_l, dIx_t, cLen_l, cLen_t, asSeq_l, asSeq_t, wipeD, setM, List.getElem?_cons_zero, List.getElem?_cons_succ, List.set_cons_zero, List.set_cons_succ, if_true, if_false, ite_true, ite_false, Bool.false_eq_true, Bool.not_true, Bool.not_false, cLen_pat hp])).trans hc), sFz_ok rfl]
      simp only [setM, List.set_cons_succ, List.set_cons_zero]
      rw [sApp_ok (ds := rowsD n ps (i + 1)) (d := .list (nums (row n ps (i + 1)))) (by simp only [v_var, v_own, v_varOf, v_ownOf, v_c, v_1, v_2, v_nil, v_cons, v_call, v_tup, v_lst, v_toL, v_ofL, v_toB, v_ofB, v_not, v_and, v_or, v_if, v_chain, v_ixL, v_part, v_tupL, v_l2, v_yes, v_mNil, v_mDat, v_mOwn, v_divmod, v_asL, v_asT, v_asB, v_asI, v_add, v_sub, v_neg, v_lt, v_le, v_gt, v_ge, v_isB, v_notB, v_isN, v_notN, v_isNi, v_isNn, bS, lineOk0, dIx_l, dIx_t, cLen_l, cLen_t, asSeq_l, asSeq_t, wipeD, setM, List.getElem?_cons_zero, List.getElem?_cons_succ, List.set_cons_zero, List.set_cons_succ, if_true, if_false, ite_true, ite_false, Bool.false_eq_true, Bool.not_true, Bool.not_false]; rw [row_succ hn h]) rfl (by unfold rowsD; rw [upto_len]; omega)]
      simp only [setM, List.set_cons_succ, List.set_cons_zero]
      rw [← row_succ hn h]
      unfold rowsD
      rw [upto_succ (i + 1)])
  rw [sSeq_nx ((sForR m (by omega) (by simp only [v_var, v_own, v_varOf, v_ownOf, v_c, v_1, v_2, v_nil, v_cons, v_call, v_tup, v_lst, v_toL, v_ofL, v_toB, v_ofB, v_not, v_and, v_or, v_if, v_chain, v_ixL, v_part, v_tupL, v_l2, v_yes, v_mNil, v_mDat, v_mOwn, v_divmod, v_asL, v_asT, v_asB, v_asI, v_add, v_sub, v_neg, v_lt, v_le, v_gt, v_ge, v_isB, v_notB, v_isN, v_notN, v_isNi, v_isNn, bS, lineOk0, dIx_l, dIx_t, cLen_l, cLen_t, asSeq_l, asSeq_t, wipeD, setM, List.getElem?_cons_zero, List.getElem?_cons_succ, List.set_cons_zero, List.set_cons_succ, if_true, if_false, ite_true, ite_false, Bool.false_eq_true, Bool.not_true, Bool.not_false])).trans h2), nums_length, List.length_range, Nat.zero_add, sFz_ok rfl]
  simp only [setM, List.set_cons_succ, List.set_cons_zero]
  rw [sRet_ok (d := .list (rowsD n ps (m + 1))) (by simp only [v_var, v_own, v_varOf, v_ownOf, v_c, v_1, v_2, v_nil, v_cons, v_call, v_tup, v_lst, v_toL, v_ofL, v_toB, v_ofB, v_not, v_and, v_or, v_if, v_chain, v_ixL, v_part, v_tupL, v_l2, v_yes, v_mNil, v_mDat, v_mOwn, v_divmod, v_asL, v_asT, v_asB, v_asI, v_add, v_sub, v_neg, v_lt, v_le, v_gt, v_ge, v_isB, v_notB, v_isN, v_notN, v_isNi, v_isNn, bS, lineOk0, dIx_l, dIx_t, cLen_l, cLen_t, asSeq_l, asSeq_t, wipeD, setM, List.getElem?_cons_zero, List.getElem?_cons_succ, List.set_cons_zero, List.set_cons_succ, if_true, if_false, ite_true, ite_false, Bool.false_eq_true, Bool.not_true, Bool.not_false])]
  rfl
end DL

namespace DL
open PySem PySem.Spec L2
/-! ### a tyre's place in a row -/
theorem idx_inv {n : Nat} (hn : Sz n) {p : List Nat} (hp : isP n p) {t : Nat} (ht : t < n) : dIndex (.list (nums (inv p))) (.int (t : Int)) = some (.int ((p.getD t 0 : Nat) : Int)) := by
  have h := look (f := fun n p => (List.range n).all fun t => sameO (dIndex (.list (nums (inv p))) (.int (t : Int))) (.int ((p.getD t 0 : Nat) : Int))) (by decide +kernel) hn hp
  exact sameO_eq (List.all_eq_true.mp h t (List.mem_range.mpr ht))
theorem idx_row {n : Nat} (hn : Sz n) {ps : List (List Nat)} (h : isPr n ps) (k : Nat) {t : Nat} (ht : t < n) : dIndex (.list (nums (row n ps k))) (.int (t : Int)) = some (.int (((P n ps k).getD t 0 : Nat) : Int)) := idx_inv hn (P_P h k) ht
theorem sset_ext {a b : List Nat} (h : ∀ x, x ∈ a ↔ x ∈ b) : sset a = sset b := by
  have e : isort (dist (a.map fun (x : Nat) => (x : Int))) = isort (dist (b.map fun (x : Nat) => (x : Int))) := by
    refine isort_of ((perm_isort _).trans (perm_of_mem (nodup_dist _) (nodup_dist _) fun k => ?_)) (up_isort _)
    rw [mem_dist, mem_dist, List.mem_map, List.mem_map]
    exact ⟨fun ⟨x, hx, e⟩ => ⟨x, (h x).mp hx, e⟩, fun ⟨x, hx, e⟩ => ⟨x, (h x).mpr hx, e⟩⟩
  unfold sset
  rw [e]
/-- the places in a full turn are the places in any longer time -/
theorem turn_mem {n : Nat} (hn : Sz n) {ps : List (List Nat)} (h : isPr n ps) (t : Nat) {m : Nat} (hm : T n ps ≤ m) (x : Nat) :
    x ∈ (List.range (T n ps)).map (fun k => (P n ps k).getD t 0) ↔ x ∈ (List.range m).map (fun k => (P n ps k).getD t 0) := by
  rw [List.mem_map, List.mem_map]
  refine ⟨fun ⟨k, hk, e⟩ => ⟨k, List.mem_range.mpr (Nat.lt_of_lt_of_le (List.mem_range.mp hk) hm), e⟩, fun ⟨k, hk, e⟩ => ⟨k % T n ps, List.mem_range.mpr (Nat.mod_lt _ (T_pos hn h)), ?_⟩⟩
  rw [P_mod hn h]
  exact e
theorem dIx_rows {n m k : Nat} {ps : List (List Nat)} (h : k < m) : dIx (.list (rowsD n ps m)) (.int (k : Int)) = some (.list (nums (row n ps k))) := dIx_upto _ h
theorem range_nums {n : Nat} {p : List Nat} (hp : p.length = n) : (List.range n).map (fun k => PyData.int ((p.getD k 0 : Nat) : Int)) = nums p := by
  rw [← nums_mapN]
  congr 1
  refine ext_getD (by rw [List.length_map, List.length_range, hp]) fun x hx => ?_
  rw [List.length_map, List.length_range] at hx
  have := idp_get hx
  unfold idp at this
  rw [getD_map (by rw [List.length_range]; exact hx), this]
theorem sh_upto {m k : Nat} {f : Nat → D} (h : ∀ i, Sh k (f i)) : Sh (k + 1) (.list (upto m f)) := Sh.list fun d hd => by
  unfold upto at hd
  obtain ⟨i, _, rfl⟩ := List.mem_map.mp hd
  exact h i
theorem sh_nlist (p : List Nat) : Sh 1 (.list (nums p)) := Sh.list Sh.nums
theorem sh_sset (l : List Nat) : Sh 1 (.list (sset l)) := Sh.list fun d hd => by
  unfold sset at hd
  obtain ⟨i, _, rfl⟩ := List.mem_map.mp hd
  exact Sh.int _
theorem cTuple_l (ds : List D) : cTuple [.list ds] = some (.tuple ds) := rfl
theorem range2_of (i j : Int) : range2 (.int i) (.int j) = if (-4611686018427387904 ≤ i ∧ i < 4611686018427387904) ∧ (-4611686018427387904 ≤ j ∧ j < 4611686018427387904) then some (rangeL i (j - i).toNat) else none := rfl
theorem range2_ok (m : Nat) (h : m ≤ 1000000) : range2 (.int 1) (.int ((m + 1 : Nat) : Int)) = some ((List.range m).map fun k => PyData.int ((k + 1 : Nat) : Int)) := by
  refine ((range2_of _ _).trans (if_pos ⟨⟨by omega, by omega⟩, by omega, by omega⟩)).trans ?_
  have : (((m + 1 : Nat) : Int) - 1).toNat = m := by omega
  rw [this]
  unfold rangeL
  congr 1
  refine List.map_congr_left fun k _ => ?_
  congr 1
  omega
theorem compD_filter {α : Type} {h : D → DE → Option DE} {tt : DE → Option Bool} {el : DE → Option D} {ρ : DE} (p : α → Bool) (u f : α → D) {xs : List α} (H : ∀ x ∈ xs, ∃ ρ1, h (u x) ρ = some ρ1 ∧ tt ρ1 = some (p x) ∧ el ρ1 = some (f x)) : compD h tt el ρ (xs.map u) = some ((xs.filter p).map f) := by
  induction xs with
  | nil => rfl
  | cons x xs ih =>
    obtain ⟨ρ1, h1, h2, h3⟩ := H x List.mem_cons_self
    have ih := ih fun d hd => H d (List.mem_cons_of_mem _ hd)
    rw [List.map_cons]
    unfold compD
    cases hp : p x with
    | true => simp only [h1, h2, h3, hp, ih, Option.bind_some, if_true, List.filter_cons_of_pos, List.map_cons]
    | false => simp only [h1, h2, hp, ih, Option.bind_some, Bool.false_eq_true, if_false, not_false_eq_true, List.filter_cons_of_neg]
end DL

namespace DL
open PySem PySem.Spec L2
/-! ### what is drawn, in the later laws -/
def cDrawn : DE → Option Bool := eAnd (e2 dGt (eVar 5) (eC (.int 0))) (e2 dGt (eVar 4) (eC (.int 0)))
def bDrawn : DS := (sSeq (sSet 5 (e2 dDiv (eVar 5) (eC (.int 1000000)))) (sSet 4 (e2 dSub (eVar 4) (eC (.int 1)))))
theorem wDrawn_ok (a b c d : DV) (r q : Int) (hq : q < 99999) : ∃ r' q' : Int, whileD cDrawn bDrawn FUEL [a, b, c, d, .dat (.int q), .dat (.int r)] = .nx [a, b, c, d, .dat (.int q'), .dat (.int r')] := by
  obtain ⟨ρ', h1, ⟨r', q', rfl⟩, _⟩ := while_inv (c := cDrawn) (b := bDrawn)
    (fun ρ => ∃ r q : Int, ρ = [a, b, c, d, .dat (.int q), .dat (.int r)]) (meas 4)
    (fun ρ ⟨r, q, e⟩ => by
      subst e
      unfold cDrawn bDrawn
      simp only [v_var, v_own, v_varOf, v_ownOf, v_c, v_1, v_2, v_nil, v_cons, v_call, v_tup, v_lst, v_toL, v_ofL, v_toB, v_ofB, v_not, v_and, v_or, v_if, v_chain, v_ixL, v_part, v_tupL, v_l2, v_yes, v_mNil, v_mDat, v_mOwn, v_divmod, v_asL, v_asT, v_asB, v_asI, v_add, v_sub, v_neg, v_lt, v_le, v_gt, v_ge, v_isB, v_notB, v_isN, v_notN, v_isNi, v_isNn, bS, lineOk0, dIx_l, dIx_t, cLen_l, cLen_t, asSeq_l, asSeq_t, wipeD, setM, List.getElem?_cons_zero, List.getElem?_cons_succ, List.set_cons_zero, List.set_cons_succ, if_true, if_false, ite_true, ite_false, Bool.false_eq_true, Bool.not_true, Bool.not_false]
      by_cases h1 : 0 < r
      · by_cases h2 : 0 < q
        · right
          refine ⟨by simp [h1, h2], [a, b, c, d, .dat (.int (q - 1)), .dat (.int (r / 1000000))], .inl ?_, ⟨_, _, rfl⟩, ?_⟩
          · rw [sSeq_nx (sSet_ok (d := .int (r / 1000000)) (by simp only [v_var, v_own, v_varOf, v_ownOf, v_c, v_1, v_2, v_nil, v_cons, v_call, v_tup, v_lst, v_toL, v_ofL, v_toB, v_ofB, v_not, v_and, v_or, v_if, v_chain, v_ixL, v_part, v_tupL, v_l2, v_yes, v_mNil, v_mDat, v_mOwn, v_divmod, v_asL, v_asT, v_asB, v_asI, v_add, v_sub, v_neg, v_lt, v_le, v_gt, v_ge, v_isB, v_notB, v_isN, v_notN, v_isNi, v_isNn, bS, lineOk0, dIx_l, dIx_t, cLen_l, cLen_t, asSeq_l, asSeq_t, wipeD, setM, List.getElem?_cons_zero, List.getElem?_cons_succ, List.set_cons_zero, List.set_cons_succ, if_true, if_false, ite_true, ite_false, Bool.false_eq_true, Bool.not_true, Bool.not_false, dDiv_ok r 1000000 ⟨by omega, by omega⟩])), sSet_ok (d := .int (q - 1)) (by simp only [setM, List.set_cons_succ, List.set_cons_zero]; simp only [v_var, v_own, v_varOf, v_ownOf, v_c, v_1, v_2, v_nil, v_cons, v_call, v_tup, v_lst, v_toL, v_ofL, v_toB, v_ofB, v_not, v_and, v_or, v_if, v_chain, v_ixL, v_part, v_tupL, v_l2, v_yes, v_mNil, v_mDat, v_mOwn, v_divmod, v_asL, v_asT, v_asB, v_asI, v_add, v_sub, v_neg, v_lt, v_le, v_gt, v_ge, v_isB, v_notB, v_isN, v_notN, v_isNi, v_isNn, bS, lineOk0, dIx_l, dIx_t, cLen_l, cLen_t, asSeq_l, asSeq_t, wipeD, setM, List.getElem?_cons_zero, List.getElem?_cons_succ, List.set_cons_zero, List.set_cons_succ, if_true, if_false, ite_true, ite_false, Bool.false_eq_true, Bool.not_true, Bool.not_false])]
            rfl
          · show (q - 1).toNat < q.toNat
            omega
        · left; simp [h1, h2]
      · left; simp [h1]) FUEL [a, b, c, d, .dat (.int q), .dat (.int r)] ⟨r, q, rfl⟩ (by show q.toNat < 100000; omega)
  exact ⟨r', q', h1⟩
theorem mod_in {x : Int} {many : Nat} (h : 0 < many) : ∃ r : Nat, r < many ∧ x % (many : Int) = (r : Int) := isN (Int.emod_nonneg _ (by omega)) (Int.emod_lt_of_pos _ (by omega))
/-- the mixing, from the cell on -/
def tDrawn : DS := (sSeq (sSet 3 (e2 dMod (e2 dAdd (e2 dMul (e2 dMod (eVar 3) (eC (.int 2147483563))) (eC (.int 69069))) (e2 dMul (eC (.int 104723)) (e2 dAdd (eVar 1) (eC (.int 1))))) (eC (.int 2147483563))))
  (sSeq (sSet 3 (e2 dMod (e2 dAdd (e2 dMul (eVar 3) (eVar 3)) (e2 dDiv (eVar 3) (eC (.int 3)))) (eC (.int 2147483399))))
  (sRet (e2 dMod (e2 dDiv (e2 dMod (e2 dAdd (e2 dMul (eVar 3) (eVar 3)) (e2 dDiv (eVar 3) (eC (.int 7)))) (eC (.int 2147483647))) (eC (.int 11))) (eVar 2)))))
theorem tDrawn_ok (s x4 x5 : DV) (c : Int) (k many : Nat) (hm : 0 < many) : ∃ r : Nat, r < many ∧ tDrawn [s, .dat (.int (k : Int)), .dat (.int (many : Int)), .dat (.int c), x4, x5] = .ret (.int (r : Int)) := by
  have hm' : (0 : Int) < (many : Int) := by omega
  unfold tDrawn
  have b0 : ∀ x : Int, (-(2 ^ 64) < x ∧ x < 2 ^ 64) ∨ (-(2 ^ 64) < (69069 : Int) ∧ (69069 : Int) < 2 ^ 64) := fun x => .inr (by omega)
  have b1 : ∀ x : Int, (-(2 ^ 64) < (104723 : Int) ∧ (104723 : Int) < 2 ^ 64) ∨ (-(2 ^ 64) < x ∧ x < 2 ^ 64) := fun x => .inl (by omega)
  rw [sSeq_nx (sSet_ok (d := .int ((c % 2147483563 * 69069 + 104723 * ((k : Int) + 1)) % 2147483563)) (by
    simp only [v_var, v_own, v_varOf, v_ownOf, v_c, v_1, v_2, v_nil, v_cons, v_call, v_tup, v_lst, v_toL, v_ofL, v_toB, v_ofB, v_not, v_and, v_or, v_if, v_chain, v_ixL, v_part, v_tupL, v_l2, v_yes, v_mNil, v_mDat, v_mOwn, v_divmod, v_asL, v_asT, v_asB, v_asI, v_add, v_sub, v_neg, v_lt, v_le, v_gt, v_ge, v_isB, v_notB, v_isN, v_notN, v_isNi, v_isNn, bS, lineOk0, dIx_l, dIx_t, cLen_l, cLen_t, asSeq_l, asSeq_t, wipeD, setM, List.getElem?_cons_zero, List.getElem?_cons_succ, List.set_cons_zero, List.set_cons_succ, if_true, if_false, ite_true, ite_false, Bool.false_eq_true, Bool.not_true, Bool.not_false, dMod_ok c 2147483563 (by omega), dMul_ok _ _ (b0 _), dMul_ok _ _ (b1 _), dMod_ok _ 2147483563 (by omega)]))]
  generalize hz : (c % 2147483563 * 69069 + 104723 * ((k : Int) + 1)) % 2147483563 = z
  have hz0 : 0 ≤ z := by rw [← hz]; exact Int.emod_nonneg _ (by omega)
  have hz1 : z < 2147483563 := by rw [← hz]; exact Int.emod_lt_of_pos _ (by omega)
  simp only [setM, List.set_cons_succ, List.set_cons_zero]
  have b2 : (-(2 ^ 64) < z ∧ z < 2 ^ 64) ∨ (-(2 ^ 64) < z ∧ z < 2 ^ 64) := .inl (by omega)
  rw [sSeq_nx (sSet_ok (d := .int ((z * z + z / 3) % 2147483399)) (by
    simp only [v_var, v_own, v_varOf, v_ownOf, v_c, v_1, v_2, v_nil, v_cons, v_call, v_tup, v_lst, v_toL, v_ofL, v_toB, v_ofB, v_not, v_and, v_or, v_if, v_chain, v_ixL, v_part, v_tupL, v_l2, v_yes, v_mNil, v_mDat, v_mOwn, v_divmod, v_asL, v_asT, v_asB, v_asI, v_add, v_sub, v_neg, v_lt, v_le, v_gt, v_ge, v_isB, v_notB, v_isN, v_notN, v_isNi, v_isNn, bS, lineOk0, dIx_l, dIx_t, cLen_l, cLen_t, asSeq_l, asSeq_t, wipeD, setM, List.getElem?_cons_zero, List.getElem?_cons_succ, List.set_cons_zero, List.set_cons_succ, if_true, if_false, ite_true, ite_false, Bool.false_eq_true, Bool.not_true, Bool.not_false, dMul_ok _ _ b2, dDiv_ok z 3 ⟨by omega, by omega⟩, dMod_ok _ 2147483399 (by omega)]))]
  generalize hy : (z * z + z / 3) % 2147483399 = y
  have hy0 : 0 ≤ y := by rw [← hy]; exact Int.emod_nonneg _ (by omega)
  have hy1 : y < 2147483399 := by rw [← hy]; exact Int.emod_lt_of_pos _ (by omega)
  simp only [setM, List.set_cons_succ, List.set_cons_zero]
  have b3 : (-(2 ^ 64) < y ∧ y < 2 ^ 64) ∨ (-(2 ^ 64) < y ∧ y < 2 ^ 64) := .inl (by omega)
  obtain ⟨r, h2, h3⟩ := mod_in (x := (y * y + y / 7) % 2147483647 / 11) hm
  refine ⟨r, h2, ?_⟩
  rw [← h3]
  exact sRet_ok (by simp only [v_var, v_own, v_varOf, v_ownOf, v_c, v_1, v_2, v_nil, v_cons, v_call, v_tup, v_lst, v_toL, v_ofL, v_toB, v_ofB, v_not, v_and, v_or, v_if, v_chain, v_ixL, v_part, v_tupL, v_l2, v_yes, v_mNil, v_mDat, v_mOwn, v_divmod, v_asL, v_asT, v_asB, v_asI, v_add, v_sub, v_neg, v_lt, v_le, v_gt, v_ge, v_isB, v_notB, v_isN, v_notN, v_isNi, v_isNn, bS, lineOk0, dIx_l, dIx_t, cLen_l, cLen_t, asSeq_l, asSeq_t, wipeD, setM, List.getElem?_cons_zero, List.getElem?_cons_succ, List.set_cons_zero, List.set_cons_succ, if_true, if_false, ite_true, ite_false, Bool.false_eq_true, Bool.not_true, Bool.not_false, dMul_ok _ _ b3, dDiv_ok y 7 ⟨by omega, by omega⟩, dMod_ok _ 2147483647 (by omega), dDiv_ok _ 11 ⟨by omega, by omega⟩, dMod_ok _ _ hm'])
theorem drawn_ok (ns : List Int) (hl : ns.length ≤ 63) (k many : Nat) (hk : k < 99999) (hm : 0 < many) : ∃ r : Nat, r < many ∧ m__law_drawn [script ns, .int (k : Int), .int (many : Int)] = some (.int (r : Int)) := by
  have hm' : (0 : Int) < (many : Int) := by omega
  unfold m__law_drawn
  rw [run_eq]
  show ∃ r : Nat, r < many ∧ outO (b__law_drawn [.dat (script ns), .dat (.int (k : Int)), .dat (.int (many : Int)), .bot, .bot, .bot]) = some (.int (r : Int))
  suffices h : ∃ r : Nat, r < many ∧ b__law_drawn [.dat (script ns), .dat (.int (k : Int)), .dat (.int (many : Int)), .bot, .bot, .bot] = .ret (.int (r : Int)) by
    obtain ⟨r, h1, h2⟩ := h
    exact ⟨r, h1, by rw [h2]; rfl⟩
  unfold b__law_drawn
  have b7 : (-(2 ^ 64) < (7 : Int) ∧ (7 : Int) < 2 ^ 64) ∨ (-(2 ^ 64) < (k : Int) ∧ (k : Int) < 2 ^ 64) := .inl (by omega)
  rw [sSeq_nx (sSet_ok (d := .int (7 * (k : Int))) (by simp only [v_var, v_own, v_varOf, v_ownOf, v_c, v_1, v_2, v_nil, v_cons, v_call, v_tup, v_lst, v_toL, v_ofL, v_toB, v_ofB, v_not, v_and, v_or, v_if, v_chain, v_ixL, v_part, v_tupL, v_l2, v_yes, v_mNil, v_mDat, v_mOwn, v_divmod, v_asL, v_asT, v_asB, v_asI, v_add, v_sub, v_neg, v_lt, v_le, v_gt, v_ge, v_isB, v_notB, v_isN, v_notN, v_isNi, v_isNn, bS, lineOk0, dIx_l, dIx_t, cLen_l, cLen_t, asSeq_l, asSeq_t, wipeD, setM, List.getElem?_cons_zero, List.getElem?_cons_succ, List.set_cons_zero, List.set_cons_succ, if_true, if_false, ite_true, ite_false, Bool.false_eq_true, Bool.not_true, Bool.not_false, dMul_ok _ _ b7]))]
  simp only [setM, List.set_cons_succ, List.set_cons_zero]
  cases hns : ns with
  | nil =>
    rw [sSeq_nx (sIfN_f (by simp only [v_var, v_own, v_varOf, v_ownOf, v_c, v_1, v_2, v_nil, v_cons, v_call, v_tup, v_lst, v_toL, v_ofL, v_toB, v_ofB, v_not, v_and, v_or, v_if, v_chain, v_ixL, v_part, v_tupL, v_l2, v_yes, v_mNil, v_mDat, v_mOwn, v_divmod, v_asL, v_asT, v_asB, v_asI, v_add, v_sub, v_neg, v_lt, v_le, v_gt, v_ge, v_isB, v_notB, v_isN, v_notN, v_isNi, v_isNn, bS, lineOk0, dIx_l, dIx_t, cLen_l, cLen_t, asSeq_l, asSeq_t, wipeD, setM, List.getElem?_cons_zero, List.getElem?_cons_succ, List.set_cons_zero, List.set_cons_succ, if_true, if_false, ite_true, ite_false, Bool.false_eq_true, Bool.not_true, Bool.not_false, dNe_nil, List.isEmpty_nil]; try rfl))]
    exact tDrawn_ok _ _ _ _ k many hm
  | cons x xs =>
    rw [← hns]
    have hne : ns ≠ [] := by rw [hns]; exact fun z => nomatch z
    obtain ⟨c, hc⟩ := atI_mod hne (k : Int)
    have hl0 : (0 : Int) < ((ns.length : Nat) : Int) := by
      have := List.length_pos_iff.mpr hne
      omega
    have hd0 : (0 : Int) < ((ns.length : Nat) : Int) ∧ ((ns.length : Nat) : Int) < 2 ^ 100 := by omega
    have ht : (e2 dNe (eVar 0) (eOfL (eLst eNil))) [.dat (script ns), .dat (.int (k : Int)), .dat (.int (many : Int)), .dat (.int (7 * (k : Int))), .bot, .bot] = some true := by
      simp only [v_var, v_own, v_varOf, v_ownOf, v_c, v_1, v_2, v_nil, v_cons, v_call, v_tup, v_lst, v_toL, v_ofL, v_toB, v_ofB, v_not, v_and, v_or, v_if, v_chain, v_ixL, v_part, v_tupL, v_l2, v_yes, v_mNil, v_mDat, v_mOwn, v_divmod, v_asL, v_asT, v_asB, v_asI, v_add, v_sub, v_neg, v_lt, v_le, v_gt, v_ge, v_isB, v_notB, v_isN, v_notN, v_isNi, v_isNn, bS, lineOk0, dIx_l, dIx_t, cLen_l, cLen_t, asSeq_l, asSeq_t, wipeD, setM, List.getElem?_cons_zero, List.getElem?_cons_succ, List.set_cons_zero, List.set_cons_succ, if_true, if_false, ite_true, ite_false, Bool.false_eq_true, Bool.not_true, Bool.not_false, dNe_nil]
      rw [hns]
      rfl
    have hpow : dPow (.int 10) (.int 18) = some (.int 1000000000000000000) := by rfl
    have e18 : ((0 : Int) < 1000000000000000000 ∧ (1000000000000000000 : Int) < 2 ^ 100) := by omega
    have hq : (k : Int) / ((ns.length : Nat) : Int) < 99999 := by
      have : (k : Int) / ((ns.length : Nat) : Int) ≤ (k : Int) := Int.ediv_le_self _ (by omega)
      omega
    -- the end of the branch
    have fin : ∀ (c q : Int) (x5 : DV), ∃ c' : Int, (sSet 3 (e2 dAdd (eVar 3) (e2 dMul (eC (.int 6553)) (e2 dDiv (eVar 1) (eCall cLen (eCons (eVar 0) eNil)))))) [.dat (script ns), .dat (.int (k : Int)), .dat (.int (many : Int)), .dat (.int c), .dat (.int q), x5] =
        .nx [.dat (script ns), .dat (.int (k : Int)), .dat (.int (many : Int)), .dat (.int c'), .dat (.int q), x5] := fun c q x5 => by
      have b8 : ∀ y : Int, (-(2 ^ 64) < (6553 : Int) ∧ (6553 : Int) < 2 ^ 64) ∨ (-(2 ^ 64) < y ∧ y < 2 ^ 64) := fun y => .inl (by omega)
      refine ⟨_, sSet_ok (d := .int (c + 6553 * ((k : Int) / ((ns.length : Nat) : Int)))) ?_⟩
      simp only [v_var, v_own, v_varOf, v_ownOf, v_c, v_1, v_2, v_nil, v_cons, v_call, v_tup, v_lst, v_toL, v_ofL, v_toB, v_ofB, v_not, v_and, v_or, v_if, v_chain, v_ixL, v_part, v_tupL, v_l2, v_yes, v_mNil, v_mDat, v_mOwn, v_divmod, v_asL, v_asT, v_asB, v_asI, v_add, v_sub, v_neg, v_lt, v_le, v_gt, v_ge, v_isB, v_notB, v_isN, v_notN, v_isNi, v_isNn, bS, lineOk0, dIx_l, dIx_t, cLen_l, cLen_t, asSeq_l, asSeq_t, wipeD, setM, List.getElem?_cons_zero, List.getElem?_cons_succ, List.set_cons_zero, List.set_cons_succ, if_true, if_false, ite_true, ite_false, Bool.false_eq_true, Bool.not_true, Bool.not_false, List.length_map, dDiv_ok _ _ hd0, dMul_ok _ _ (b8 _)]
    have inner : ∃ o : SO, ((∃ r : Nat, r < many ∧ o = .ret (.int (r : Int))) ∨ ∃ (c' q' : Int) (x5 : DV), o = .nx [.dat (script ns), .dat (.int (k : Int)), .dat (.int (many : Int)), .dat (.int c'), .dat (.int q'), x5]) ∧
        (sSeq (sSet 3 (e2 dIx (eVar 0) (e2 dMod (eVar 1) (eCall cLen (eCons (eVar 0) eNil)))))
          (sSeq (sSet 4 (e2 dDiv (eVar 1) (eCall cLen (eCons (eVar 0) eNil))))
          (sSeq (sIf (eAnd (e2 dGe (eVar 3) (e2 dPow (eC (.int 10)) (eC (.int 18)))) (e2 dLt (eVar 4) (eC (.int 60))))
          (sSeq (sSet 5 (e2 dDiv (eVar 3) (e2 dPow (eC (.int 10)) (eC (.int 18)))))
          (sSeq (whileD cDrawn bDrawn FUEL)
          (sIf (e2 dGt (eVar 5) (eC (.int 0)))
          (sRet (e2 dMod (e2 dMod (eVar 5) (eC (.int 1000000))) (eVar 2)))
          sNext)))
          sNext)
          (sSet 3 (e2 dAdd (eVar 3) (e2 dMul (eC (.int 6553)) (e2 dDiv (eVar 1) (eCall cLen (eCons (eVar 0) eNil))))))))) [.dat (script ns), .dat (.int (k : Int)), .dat (.int (many : Int)), .dat (.int (7 * (k : Int))), .bot, .bot] = o := by
      rw [sSeq_nx (sSet_ok (d := .int c) (by simp only [v_var, v_own, v_varOf, v_ownOf, v_c, v_1, v_2, v_nil, v_cons, v_call, v_tup, v_lst, v_toL, v_ofL, v_toB, v_ofB, v_not, v_and, v_or, v_if, v_chain, v_ixL, v_part, v_tupL, v_l2, v_yes, v_mNil, v_mDat, v_mOwn, v_divmod, v_asL, v_asT, v_asB, v_asI, v_add, v_sub, v_neg, v_lt, v_le, v_gt, v_ge, v_isB, v_notB, v_isN, v_notN, v_isNi, v_isNn, bS, lineOk0, dIx_l, dIx_t, cLen_l, cLen_t, asSeq_l, asSeq_t, wipeD, setM, List.getElem?_cons_zero, List.getElem?_cons_succ, List.set_cons_zero, List.set_cons_succ, if_true, if_false, ite_true, ite_false, Bool.false_eq_true, Bool.not_true, Bool.not_false, List.length_map, dMod_ok _ _ hl0]; exact hc))]
      simp only [setM, List.set_cons_succ, List.set_cons_zero]
      rw [sSeq_nx (sSet_ok (d := .int ((k : Int) / ((ns.length : Nat) : Int))) (by simp only [v_var, v_own, v_varOf, v_ownOf, v_c, v_1, v_2, v_nil, v_cons, v_call, v_tup, v_lst, v_toL, v_ofL, v_toB, v_ofB, v_not, v_and, v_or, v_if, v_chain, v_ixL, v_part, v_tupL, v_l2, v_yes, v_mNil, v_mDat, v_mOwn, v_divmod, v_asL, v_asT, v_asB, v_asI, v_add, v_sub, v_neg, v_lt, v_le, v_gt, v_ge, v_isB, v_notB, v_isN, v_notN, v_isNi, v_isNn, bS, lineOk0, dIx_l, dIx_t, cLen_l, cLen_t, asSeq_l, asSeq_t, wipeD, setM, List.getElem?_cons_zero, List.getElem?_cons_succ, List.set_cons_zero, List.set_cons_succ, if_true, if_false, ite_true, ite_false, Bool.false_eq_true, Bool.not_true, Bool.not_false, List.length_map, dDiv_ok _ _ hd0]))]
      simp only [setM, List.set_cons_succ, List.set_cons_zero]
      by_cases hbig : (1000000000000000000 : Int) ≤ c ∧ (k : Int) / ((ns.length : Nat) : Int) < 60
      · have e1 : sIf (eAnd (e2 dGe (eVar 3) (e2 dPow (eC (.int 10)) (eC (.int 18)))) (e2 dLt (eVar 4) (eC (.int 60))))
          (sSeq (sSet 5 (e2 dDiv (eVar 3) (e2 dPow (eC (.int 10)) (eC (.int 18)))))
          (sSeq (whileD cDrawn bDrawn FUEL)
          (sIf (e2 dGt (eVar 5) (eC (.int 0)))
          (sRet (e2 dMod (e2 dMod (eVar 5) (eC (.int 1000000))) (eVar 2)))
          sNext))) sNext [.dat (script ns), .dat (.int (k : Int)), .dat (.int (many : Int)), .dat (.int c), .dat (.int ((k : Int) / ((ns.length : Nat) : Int))), .bot] = (sSeq (sSet 5 (e2 dDiv (eVar 3) (e2 dPow (eC (.int 10)) (eC (.int 18)))))
          (sSeq (whileD cDrawn bDrawn FUEL)
          (sIf (e2 dGt (eVar 5) (eC (.int 0)))
          (sRet (e2 dMod (e2 dMod (eVar 5) (eC (.int 1000000))) (eVar 2)))
          sNext))) [.dat (script ns), .dat (.int (k : Int)), .dat (.int (many : Int)), .dat (.int c), .dat (.int ((k : Int) / ((ns.length : Nat) : Int))), .bot] := sIf_t (by simp only [v_var, v_own, v_varOf, v_ownOf, v_c, v_1, v_2, v_nil, v_cons, v_call, v_tup, v_lst, v_toL, v_ofL, v_toB, v_ofB, v_not, v_and, v_or, v_if, v_chain, v_ixL, v_part, v_tupL, v_l2, v_yes, v_mNil, v_mDat, v_mOwn, v_divmod, v_asL, v_asT, v_asB, v_asI, v_add, v_sub, v_neg, v_lt, v_le, v_gt, v_ge, v_isB, v_notB, v_isN, v_notN, v_isNi, v_isNn, bS, lineOk0, dIx_l, dIx_t, cLen_l, cLen_t, asSeq_l, asSeq_t, wipeD, setM, List.getElem?_cons_zero, List.getElem?_cons_succ, List.set_cons_zero, List.set_cons_succ, if_true, if_false, ite_true, ite_false, Bool.false_eq_true, Bool.not_true, Bool.not_false, hpow, hbig.1, hbig.2, decide_true])
        rw [sSeq_nx (sSet_ok (d := .int (c / 1000000000000000000)) (by simp only [v_var, v_own, v_varOf, v_ownOf, v_c, v_1, v_2, v_nil, v_cons, v_call, v_tup, v_lst, v_toL, v_ofL, v_toB, v_ofB, v_not, v_and, v_or, v_if, v_chain, v_ixL, v_part, v_tupL, v_l2, v_yes, v_mNil, v_mDat, v_mOwn, v_divmod, v_asL, v_asT, v_asB, v_asI, v_add, v_sub, v_neg, v_lt, v_le, v_gt, v_ge, v_isB, v_notB, v_isN, v_notN, v_isNi, v_isNn, bS, lineOk0, dIx_l, dIx_t, cLen_l, cLen_t, asSeq_l, asSeq_t, wipeD, setM, List.getElem?_cons_zero, List.getElem?_cons_succ, List.set_cons_zero, List.set_cons_succ, if_true, if_false, ite_true, ite_false, Bool.false_eq_true, Bool.not_true, Bool.not_false, hpow, dDiv_ok _ _ e18]))] at e1
        simp only [setM, List.set_cons_succ, List.set_cons_zero] at e1
        obtain ⟨r', q', hw⟩ := wDrawn_ok (.dat (script ns)) (.dat (.int (k : Int))) (.dat (.int (many : Int))) (.dat (.int c)) (c / 1000000000000000000) ((k : Int) / ((ns.length : Nat) : Int)) hq
        rw [sSeq_nx hw] at e1
        by_cases hr : 0 < r'
        · obtain ⟨r, h1, h2⟩ := mod_in (x := r' % 1000000) hm
          refine ⟨.ret (.int (r : Int)), .inl ⟨r, h1, rfl⟩, ?_⟩
          exact sSeq_ret (e1.trans ((sIf_t (by simp only [v_var, v_own, v_varOf, v_ownOf, v_c, v_1, v_2, v_nil, v_cons, v_call, v_tup, v_lst, v_toL, v_ofL, v_toB, v_ofB, v_not, v_and, v_or, v_if, v_chain, v_ixL, v_part, v_tupL, v_l2, v_yes, v_mNil, v_mDat, v_mOwn, v_divmod, v_asL, v_asT, v_asB, v_asI, v_add, v_sub, v_neg, v_lt, v_le, v_gt, v_ge, v_isB, v_notB, v_isN, v_notN, v_isNi, v_isNn, bS, lineOk0, dIx_l, dIx_t, cLen_l, cLen_t, asSeq_l, asSeq_t, wipeD, setM, List.getElem?_cons_zero, List.getElem?_cons_succ, List.set_cons_zero, List.set_cons_succ, if_true, if_false, ite_true, ite_false, Bool.false_eq_true, Bool.not_true, Bool.not_false, hr, decide_true])).trans (sRet_ok (d := .int (r : Int)) (by simp only [v_var, v_own, v_varOf, v_ownOf, v_c, v_1, v_2, v_nil, v_cons, v_call, v_tup, v_lst, v_toL, v_ofL, v_toB, v_ofB, v_not, v_and, v_or, v_if, v_chain, v_ixL, v_part, v_tupL, v_l2, v_yes, v_mNil, v_mDat, v_mOwn, v_divmod, v_asL, v_asT, v_asB, v_asI, v_add, v_sub, v_neg, v_lt, v_le, v_gt, v_ge, v_isB, v_notB, v_isN, v_notN, v_isNi, v_isNn, bS, lineOk0, dIx_l, dIx_t, cLen_l, cLen_t, asSeq_l, asSeq_t, wipeD, setM, List.getElem?_cons_zero, List.getElem?_cons_succ, List.set_cons_zero, List.set_cons_succ, if_true, if_false, ite_true, ite_false, Bool.false_eq_true, Bool.not_true, Bool.not_false, dMod_ok r' 1000000 (by omega), dMod_ok _ _ hm', h2]))))
        · replace e1 := e1.trans (sIfN_f (by simp only [v_var, v_own, v_varOf, v_ownOf, v_c, v_1, v_2, v_nil, v_cons, v_call, v_tup, v_lst, v_toL, v_ofL, v_toB, v_ofB, v_not, v_and, v_or, v_if, v_chain, v_ixL, v_part, v_tupL, v_l2, v_yes, v_mNil, v_mDat, v_mOwn, v_divmod, v_asL, v_asT, v_asB, v_asI, v_add, v_sub, v_neg, v_lt, v_le, v_gt, v_ge, v_isB, v_notB, v_isN, v_notN, v_isNi, v_isNn, bS, lineOk0, dIx_l, dIx_t, cLen_l, cLen_t, asSeq_l, asSeq_t, wipeD, setM, List.getElem?_cons_zero, List.getElem?_cons_succ, List.set_cons_zero, List.set_cons_succ, if_true, if_false, ite_true, ite_false, Bool.false_eq_true, Bool.not_true, Bool.not_false, hr, decide_false]))
          obtain ⟨c', hf⟩ := fin c q' (.dat (.int r'))
          refine ⟨_, .inr ⟨c', q', .dat (.int r'), rfl⟩, ?_⟩
          rw [sSeq_nx e1, hf]
      · obtain ⟨c', hf⟩ := fin c ((k : Int) / ((ns.length : Nat) : Int)) .bot
        refine ⟨_, .inr ⟨c', (k : Int) / ((ns.length : Nat) : Int), .bot, rfl⟩, ?_⟩
        rw [sSeq_nx (sIfN_f (by
          by_cases h1 : (1000000000000000000 : Int) ≤ c
          · have h2 : ¬ (k : Int) / ((ns.length : Nat) : Int) < 60 := fun z => hbig ⟨h1, z⟩
            simp only [v_var, v_own, v_varOf, v_ownOf, v_c, v_1, v_2, v_nil, v_cons, v_call, v_tup, v_lst, v_toL, v_ofL, v_toB, v_ofB, v_not, v_and, v_or, v_if, v_chain, v_ixL, v_part, v_tupL, v_l2, v_yes, v_mNil, v_mDat, v_mOwn, v_divmod, v_asL, v_asT, v_asB, v_asI, v_add, v_sub, v_neg, v_lt, v_le, v_gt, v_ge, v_isB, v_notB, v_isN, v_notN, v_isNi, v_isNn, bS, lineOk0, dIx_l, dIx_t, cLen_l, cLen_t, asSeq_l, asSeq_t, wipeD, setM, List.getElem?_cons_zero, List.getElem?_cons_succ, List.set_cons_zero, List.set_cons_succ, if_true, if_false, ite_true, ite_false, Bool.false_eq_true, Bool.not_true, Bool.not_false, hpow, h1, h2, decide_true, decide_false]
          · simp only [v_var, v_own, v_varOf, v_ownOf, v_c, v_1, v_2, v_nil, v_cons, v_call, v_tup, v_lst, v_toL, v_ofL, v_toB, v_ofB, v_not, v_and, v_or, v_if, v_chain, v_ixL, v_part, v_tupL, v_l2, v_yes, v_mNil, v_mDat, v_mOwn, v_divmod, v_asL, v_asT, v_asB, v_asI, v_add, v_sub, v_neg, v_lt, v_le, v_gt, v_ge, v_isB, v_notB, v_isN, v_notN, v_isNi, v_isNn, bS, lineOk0, dIx_l, dIx_t, cLen_l, cLen_t, asSeq_l, asSeq_t, wipeD, setM, List.getElem?_cons_zero, List.getElem?_cons_succ, List.set_cons_zero, List.set_cons_succ, if_true, if_false, ite_true, ite_false, Bool.false_eq_true, Bool.not_true, Bool.not_false, hpow, h1, decide_false])), hf]
    obtain ⟨o, ho, he⟩ := inner
    unfold cDrawn bDrawn at he
    rcases ho with ⟨r, h1, rfl⟩ | ⟨c', q', x5, rfl⟩
    · exact ⟨r, h1, sSeq_ret ((sIf_t ht).trans he)⟩
    · rw [sSeq_nx ((sIf_t ht).trans he)]
      exact tDrawn_ok _ _ _ _ k many hm
end DL

namespace DL
open PySem PySem.Spec L2
/-! ### patterns, programs, rates that are drawn -/
theorem pattern_ok (ns : List Int) (hl : ns.length ≤ 63) (k n : Nat) (hk : k < 90000) (hn : Sz n) : ∃ p : List Nat, isP n p ∧ m__law_pattern [script ns, .int (k : Int), .int (n : Int)] = some (pat p) := by
  have hn5 : n ≤ 5 := by rcases hn with rfl | rfl | rfl <;> omega
  unfold m__law_pattern
  rw [run_eq]
  show ∃ p : List Nat, isP n p ∧ outO (b__law_pattern [.dat (script ns), .dat (.int (k : Int)), .dat (.int (n : Int)), .bot, .bot, .bot]) = some (pat p)
  unfold b__law_pattern
  have h1 : mOwn (rgN (eVar 2)) (mOwn (eLst eNil) mNil) [.dat (script ns), .dat (.int (k : Int)), .dat (.int (n : Int)), .bot, .bot, .bot] = some [.own (nums (List.range n)), .own []] := by
    unfold mOwn
    rw [rgN_ok n (by omega) rfl]
    rfl
  rw [sSeq_nx (sPar_ok h1)]
  simp only [setM, List.set_cons_succ, List.set_cons_zero]
  have hf : sFor (e1 rng1 (eVar 2)) (hName 5) (sAppPop 4 3 (eCall m__law_drawn (eCons (eVar 0) (eCons (e2 dAdd (eVar 1) (eVar 5)) (eCons (eCall cLen (eCons (eOfL (eOwn 3)) eNil)) eNil))))) [.dat (script ns), .dat (.int (k : Int)), .dat (.int (n : Int)), .own (nums (List.range n)), .own [], .bot] =
      forD (hName 5) (sAppPop 4 3 (eCall m__law_drawn (eCons (eVar 0) (eCons (e2 dAdd (eVar 1) (eVar 5)) (eCons (eCall cLen (eCons (eOfL (eOwn 3)) eNil)) eNil))))) (nums (List.range n)) [.dat (script ns), .dat (.int (k : Int)), .dat (.int (n : Int)), .own (nums (List.range n)), .own [], .bot] :=
    sForR n (by omega) rfl
  obtain ⟨ρ', h2, ⟨L, F, z, rfl, hlen, hperm⟩⟩ := for_inv (h := hName 5) (b := sAppPop 4 3 (eCall m__law_drawn (eCons (eVar 0) (eCons (e2 dAdd (eVar 1) (eVar 5)) (eCons (eCall cLen (eCons (eOfL (eOwn 3)) eNil)) eNil)))))
    (fun i ρ => ∃ (L F : List Nat) (z : DV), ρ = [.dat (script ns), .dat (.int (k : Int)), .dat (.int (n : Int)), .own (nums L), .own (nums F), z] ∧ F.length = i ∧ (F ++ L).Perm (List.range n))
    (ds := nums (List.range n)) (k := 0) (ρ := [.dat (script ns), .dat (.int (k : Int)), .dat (.int (n : Int)), .own (nums (List.range n)), .own [], .bot]) ⟨List.range n, [], .bot, rfl, rfl, List.Perm.refl _⟩
    (fun i d ρ hd ⟨L, F, z, e, hlen, hperm⟩ => by
      subst e
      obtain ⟨hi, rfl⟩ := range_get hd
      rw [Nat.zero_add] at hlen
      have hLl : L.length = n - i := by
        have := hperm.length_eq
        rw [List.length_append, List.length_range, hlen] at this
        omega
      obtain ⟨r, hr, hp⟩ := drawn_ok ns hl (k + i) L.length (by omega) (by omega)
      have hgp : (eCall m__law_drawn (eCons (eVar 0) (eCons (e2 dAdd (eVar 1) (eVar 5)) (eCons (eCall cLen (eCons (eOfL (eOwn 3)) eNil)) eNil)))) [.dat (script ns), .dat (.int (k : Int)), .dat (.int (n : Int)), .own (nums L), .own (nums F), .dat (.int (i : Int))] = some (.int (r : Int)) := by
        simp only [v_var, v_own, v_varOf, v_ownOf, v_c, v_1, v_2, v_nil, v_cons, v_call, v_tup, v_lst, v_toL, v_ofL, v_toB, v_ofB, v_not, v_and, v_or, v_if, v_chain, v_ixL, v_part, v_tupL, v_l2, v_yes, v_mNil, v_mDat, v_mOwn, v_divmod, v_asL, v_asT, v_asB, v_asI, v_add, v_sub, v_neg, v_lt, v_le, v_gt, v_ge, v_isB, v_notB, v_isN, v_notN, v_isNi, v_isNn, bS, lineOk0, dIx_l, dIx_t, cLen_l, cLen_t, asSeq_l, asSeq_t, wipeD, setM, List.getElem?_cons_zero, List.getElem?_cons_succ, List.set_cons_zero, List.set_cons_succ, if_true, if_false, ite_true, ite_false, Bool.false_eq_true, Bool.not_true, Bool.not_false]
        rw [nums_length]
        exact hp
      refine ⟨_, [.dat (script ns), .dat (.int (k : Int)), .dat (.int (n : Int)), .own (nums (L.eraseIdx r)), .own (nums (F ++ [L[r]])), .dat (.int (i : Int))], rfl, .inl ?_, L.eraseIdx r, F ++ [L[r]], _, rfl, by rw [List.length_append, hlen, Nat.zero_add]; rfl, ?_⟩
      · show sAppPop 4 3 _ [.dat (script ns), .dat (.int (k : Int)), .dat (.int (n : Int)), .own (nums L), .own (nums F), .dat (.int (i : Int))] = _
        have hr' : r < (nums L).length := by rw [nums_length]; exact hr
        refine (sAppPop_ok (ds := nums F) (es := nums L) (d := .int (L[r] : Nat)) hgp rfl rfl (ixN_ok hr') (by rw [nums_get, List.getElem?_eq_getElem hr]; rfl) (by rw [nums_length]; omega) (by rw [nums_length]; omega)).trans ?_
        simp only [List.set_cons_succ, List.set_cons_zero, nums_erase, nums_app]
        rfl
      · refine List.Perm.trans ?_ hperm
        rw [List.append_assoc]
        exact List.Perm.append_left F (by rw [List.singleton_append]; exact erase_perm L r hr))
  rw [sSeq_nx (hf.trans h2)]
  rw [Nat.zero_add, nums_length, List.length_range] at hlen
  have hL : L = [] := by
    have := hperm.length_eq
    rw [List.length_append, List.length_range, hlen] at this
    exact List.eq_nil_of_length_eq_zero (by omega)
  subst hL
  rw [List.append_nil] at hperm
  exact ⟨F, ⟨hlen, fun x hx => List.mem_range.mp (hperm.mem_iff.mp hx), hperm.nodup_iff.mpr List.nodup_range⟩, rfl⟩
theorem program_ok (ns : List Int) (hl : ns.length ≤ 63) (k : Nat) (hk : k < 80000) : ∃ (n : Nat) (ps : List (List Nat)), Sz n ∧ isPr n ps ∧ ps.length ≤ 3 ∧ m__law_program [script ns, .int (k : Int)] = some (prog ps) := by
  obtain ⟨z, hz, h0⟩ := drawn_ok ns hl k 3 (by omega) (by omega)
  obtain ⟨r, hr, h1⟩ := drawn_ok ns hl (k + 1) 3 (by omega) (by omega)
  have h0' : m__law_drawn [script ns, .int (k : Int), .int 3] = some (.int (z : Int)) := h0
  have h1' : m__law_drawn [script ns, .int ((k + 1 : Nat) : Int), .int 3] = some (.int (r : Int)) := h1
  have hn : Sz (3 + z) := sz_of hz
  refine ⟨3 + z, ?_⟩
  unfold m__law_program
  rw [run_eq]
  show ∃ ps : List (List Nat), Sz (3 + z) ∧ isPr (3 + z) ps ∧ ps.length ≤ 3 ∧ outO (b__law_program [.dat (script ns), .dat (.int (k : Int)), .bot, .bot]) = some (prog ps)
  unfold b__law_program
  have a0 : dAdd (.int 3) (.int (z : Int)) = some (.int ((3 + z : Nat) : Int)) := addN 3 z
  have a1 : dAdd (.int 1) (.int (r : Int)) = some (.int ((1 + r : Nat) : Int)) := addN 1 r
  have ak1 : dAdd (.int (k : Int)) (.int 1) = some (.int ((k + 1 : Nat) : Int)) := addN k 1
  rw [sSeq_nx (sSet_ok (d := .int ((3 + z : Nat) : Int)) (by simp only [v_var, v_own, v_varOf, v_ownOf, v_c, v_1, v_2, v_nil, v_cons, v_call, v_tup, v_lst, v_toL, v_ofL, v_toB, v_ofB, v_not, v_and, v_or, v_if, v_chain, v_ixL, v_part, v_tupL, v_l2, v_yes, v_mNil, v_mDat, v_mOwn, v_divmod, v_asL, v_asT, v_asB, v_asI, v_add, v_sub, v_neg, v_lt, v_le, v_gt, v_ge, v_isB, v_notB, v_isN, v_notN, v_isNi, v_isNn, bS, lineOk0, dIx_l, dIx_t, cLen_l, cLen_t, asSeq_l, asSeq_t, wipeD, setM, List.getElem?_cons_zero, List.getElem?_cons_succ, List.set_cons_zero, List.set_cons_succ, if_true, if_false, ite_true, ite_false, Bool.false_eq_true, Bool.not_true, Bool.not_false, h0', a0, - v_add]))]
  simp only [setM, List.set_cons_succ, List.set_cons_zero]
  obtain ⟨ps, p1, p2, p3⟩ := lc_rg_ex (vs := [3]) (j := 3) (n := 1 + r) (g := e2 dAdd (eC (.int 1)) (eCall m__law_drawn (eCons (eVar 0) (eCons (e2 dAdd (eVar 1) (eC (.int 1))) (eCons (eC (.int 3)) eNil))))) (ρ := [.dat (script ns), .dat (.int (k : Int)), .dat (.int ((3 + z : Nat) : Int)), .bot])
    (el := eCall m__law_pattern (eCons (eVar 0) (eCons (e2 dAdd (e2 dAdd (eVar 1) (eC (.int 2))) (e2 dMul (eC (.int 5)) (eVar 3))) (eCons (eVar 2) eNil)))) (by omega) (by
      simp only [v_var, v_own, v_varOf, v_ownOf, v_c, v_1, v_2, v_nil, v_cons, v_call, v_tup, v_lst, v_toL, v_ofL, v_toB, v_ofB, v_not, v_and, v_or, v_if, v_chain, v_ixL, v_part, v_tupL, v_l2, v_yes, v_mNil, v_mDat, v_mOwn, v_divmod, v_asL, v_asT, v_asB, v_asI, v_add, v_sub, v_neg, v_lt, v_le, v_gt, v_ge, v_isB, v_notB, v_isN, v_notN, v_isNi, v_isNn, bS, lineOk0, dIx_l, dIx_t, cLen_l, cLen_t, asSeq_l, asSeq_t, wipeD, setM, List.getElem?_cons_zero, List.getElem?_cons_succ, List.set_cons_zero, List.set_cons_succ, if_true, if_false, ite_true, ite_false, Bool.false_eq_true, Bool.not_true, Bool.not_false, ak1, h1', a1, - v_add]) (isP (3 + z)) pat fun i hi => by
      obtain ⟨p, hp, h2⟩ := pattern_ok ns hl (k + 2 + 5 * i) (3 + z) (by omega) hn
      refine ⟨p, ?_, hp⟩
      have m5 : dMul (.int 5) (.int (i : Int)) = some (.int ((5 * i : Nat) : Int)) := mulN 5 i (by omega)
      have ak : dAdd (.int (k : Int)) (.int 2) = some (.int ((k + 2 : Nat) : Int)) := addN k 2
      rw [v_call, v_cons, v_cons, v_2, v_2, v_2]
      simp only [v_var, v_varOf, v_c, v_cons, v_nil, bS, wipeD, List.getElem?_cons_zero, List.getElem?_cons_succ, List.set_cons_zero, List.set_cons_succ, m5, ak, addN]
      exact h2
  refine ⟨ps, hn, ⟨by omega, by omega, p2⟩, by omega, ?_⟩
  rw [sRet_ok (d := prog ps) (by rw [v_tupL, p3, bS]; rfl)]
  rfl
end DL

namespace DL
open PySem PySem.Spec L2
/-! ### rates and wear -/
structure isRt (n : Nat) (rs : List Nat) : Prop where
  len : rs.length = n
  le : ∀ x ∈ rs, x ≤ 20
/-- the wear of tyre t after k intervals -/
def w (n : Nat) (ps : List (List Nat)) (rs : List Nat) (t : Nat) : Nat → Nat
  | 0 => 0
  | k + 1 => w n ps rs t k + rs.getD ((P n ps k).getD t 0) 0
def W (n : Nat) (ps : List (List Nat)) (rs : List Nat) (k : Nat) : List Nat := (List.range n).map fun t => w n ps rs t k
def wears (n : Nat) (ps : List (List Nat)) (rs : List Nat) (m : Nat) : List D := upto m fun k => .list (nums (W n ps rs k))
theorem W_len (n : Nat) (ps : List (List Nat)) (rs : List Nat) (k : Nat) : (W n ps rs k).length = n := by unfold W; rw [List.length_map, List.length_range]
theorem W_get {n : Nat} (ps : List (List Nat)) (rs : List Nat) (k : Nat) {t : Nat} (ht : t < n) : (W n ps rs k).getD t 0 = w n ps rs t k := by
  unfold W
  have := idp_get ht
  unfold idp at this
  rw [getD_map (f := fun t => w n ps rs t k) (by rw [List.length_range]; exact ht), this]
theorem W_zero (n : Nat) (ps : List (List Nat)) (rs : List Nat) : W n ps rs 0 = List.replicate n 0 := by
  refine List.eq_replicate_iff.mpr ⟨W_len _ _ _ _, fun b hb => ?_⟩
  obtain ⟨t, _, rfl⟩ := List.mem_map.mp hb
  rfl
theorem w_turn {n : Nat} (hn : Sz n) {ps : List (List Nat)} (h : isPr n ps) (rs : List Nat) (t : Nat) : ∀ k, w n ps rs t (k + T n ps) = w n ps rs t (T n ps) + w n ps rs t k
  | 0 => by rw [Nat.zero_add]; rfl
  | k + 1 => by
    have e : k + 1 + T n ps = (k + T n ps) + 1 := by omega
    rw [e]
    show w n ps rs t (k + T n ps) + rs.getD ((P n ps (k + T n ps)).getD t 0) 0 = w n ps rs t (T n ps) + (w n ps rs t k + rs.getD ((P n ps k).getD t 0) 0)
    rw [w_turn hn h rs t k, P_turn hn h, Nat.add_assoc]
theorem w_turns {n : Nat} (hn : Sz n) {ps : List (List Nat)} (h : isPr n ps) (rs : List Nat) (t k : Nat) : ∀ m, w n ps rs t (k + m * T n ps) = m * w n ps rs t (T n ps) + w n ps rs t k
  | 0 => by rw [Nat.zero_mul, Nat.zero_mul, Nat.add_zero, Nat.zero_add]
  | m + 1 => by
    have e : k + (m + 1) * T n ps = (k + m * T n ps) + T n ps := by rw [Nat.add_mul, Nat.one_mul, Nat.add_assoc]
    rw [e, w_turn hn h, w_turns hn h rs t k m, Nat.add_mul, Nat.one_mul]
    omega
theorem w_mod {n : Nat} (hn : Sz n) {ps : List (List Nat)} (h : isPr n ps) (rs : List Nat) (t k : Nat) : w n ps rs t k = k / T n ps * w n ps rs t (T n ps) + w n ps rs t (k % T n ps) := by
  have e : k % T n ps + k / T n ps * T n ps = k := by rw [Nat.mul_comm]; exact Nat.mod_add_div k _
  rw [← w_turns hn h rs t (k % T n ps) (k / T n ps), e]
theorem get_le {l : List Nat} {m : Nat} (h : ∀ x ∈ l, x ≤ m) (i : Nat) : l.getD i 0 ≤ m := by
  rw [List.getD_eq_getElem?_getD]
  cases e : l[i]? with
  | none => exact Nat.zero_le _
  | some x => exact h x (List.mem_of_getElem? e)
theorem w_le {n : Nat} {ps : List (List Nat)} {rs : List Nat} (hr : isRt n rs) (t : Nat) : ∀ k, w n ps rs t k ≤ 20 * k
  | 0 => Nat.le_refl _
  | k + 1 => by
    have h1 := w_le (ps := ps) hr t k
    have h2 := get_le hr.le ((P n ps k).getD t 0)
    show w n ps rs t k + rs.getD ((P n ps k).getD t 0) 0 ≤ _
    omega
/-! ### drawn rates -/
theorem prices_ok (ns : List Int) (hl : ns.length ≤ 63) (k n : Nat) (hk : k < 80000) (hn : n ≤ 5) : ∃ rs : List Nat, isRt n rs ∧ m__law_prices [script ns, .int (k : Int), .int (n : Int)] = some (pat rs) := by
  unfold m__law_prices
  rw [run_eq]
  show ∃ rs : List Nat, isRt n rs ∧ outO (b__law_prices [.dat (script ns), .dat (.int (k : Int)), .dat (.int (n : Int)), .bot]) = some (pat rs)
  unfold b__law_prices
  obtain ⟨rs, p1, p2, p3⟩ := lc_rg_ex (vs := [3]) (j := 3) (n := n) (g := eVar 2) (ρ := [.dat (script ns), .dat (.int (k : Int)), .dat (.int (n : Int)), .bot])
    (el := e2 dIx (eTup (eCons (eC (.int 3)) (eCons (eC (.int 3)) (eCons (eC (.int 1)) (eCons (eC (.int 0)) (eCons (eC (.int 1)) (eCons (eC (.int 2)) (eCons (eC (.int 5)) (eCons (eC (.int 20)) eNil))))))))) (eCall m__law_pick (eCons (eVar 0) (eCons (e2 dAdd (eVar 1) (eVar 3)) (eCons (eC (.int 8)) eNil)))))
    (by omega) (by simp only [v_var, v_own, v_varOf, v_ownOf, v_c, v_1, v_2, v_nil, v_cons, v_call, v_tup, v_lst, v_toL, v_ofL, v_toB, v_ofB, v_not, v_and, v_or, v_if, v_chain, v_ixL, v_part, v_tupL, v_l2, v_yes, v_mNil, v_mDat, v_mOwn, v_divmod, v_asL, v_asT, v_asB, v_asI, v_add, v_sub, v_neg, v_lt, v_le, v_gt, v_ge, v_isB, v_notB, v_isN, v_notN, v_isNi, v_isNn, bS, lineOk0, dIx_l, dIx_t, cLen_l, cLen_t, asSeq_l, asSeq_t, wipeD, setM, List.getElem?_cons_zero, List.getElem?_cons_succ, List.set_cons_zero, List.set_cons_succ, if_true, if_false, ite_true, ite_false, Bool.false_eq_true, Bool.not_true, Bool.not_false]) (fun x : Nat => x ≤ 20) (fun x => PyData.int (x : Int)) fun i hi => by
      obtain ⟨r, hr, h2⟩ := pick_ok ns hl (k + i) 8 (by omega) (by omega)
      have h2' : m__law_pick [script ns, .int ((k + i : Nat) : Int), .int 8] = some (.int (r : Int)) := h2
      have ak := addN k i
      refine ⟨[3, 3, 1, 0, 1, 2, 5, 20].getD r 0, ?_, ?_⟩
      · have ht : ∀ ρ : DE, eTup (eCons (eC (.int 3)) (eCons (eC (.int 3)) (eCons (eC (.int 1)) (eCons (eC (.int 0)) (eCons (eC (.int 1)) (eCons (eC (.int 2)) (eCons (eC (.int 5)) (eCons (eC (.int 20)) eNil)))))))) ρ = some (pat [3, 3, 1, 0, 1, 2, 5, 20]) := fun ρ => by
          rw [v_tup]
          simp only [v_var, v_own, v_varOf, v_ownOf, v_c, v_1, v_2, v_nil, v_cons, v_call, v_tup, v_lst, v_toL, v_ofL, v_toB, v_ofB, v_not, v_and, v_or, v_if, v_chain, v_ixL, v_part, v_tupL, v_l2, v_yes, v_mNil, v_mDat, v_mOwn, v_divmod, v_asL, v_asT, v_asB, v_asI, v_add, v_sub, v_neg, v_lt, v_le, v_gt, v_ge, v_isB, v_notB, v_isN, v_notN, v_isNi, v_isNn, bS, lineOk0, dIx_l, dIx_t, cLen_l, cLen_t, asSeq_l, asSeq_t, wipeD, setM, List.getElem?_cons_zero, List.getElem?_cons_succ, List.set_cons_zero, List.set_cons_succ, if_true, if_false, ite_true, ite_false, Bool.false_eq_true, Bool.not_true, Bool.not_false]
          rw [lineOk_ok (by show 8 ≤ _; omega), bS]; rfl
        rw [v_2, ht, bS]
        simp only [v_var, v_own, v_varOf, v_ownOf, v_c, v_1, v_2, v_nil, v_cons, v_call, v_tup, v_lst, v_toL, v_ofL, v_toB, v_ofB, v_not, v_and, v_or, v_if, v_chain, v_ixL, v_part, v_tupL, v_l2, v_yes, v_mNil, v_mDat, v_mOwn, v_divmod, v_asL, v_asT, v_asB, v_asI, v_add, v_sub, v_neg, v_lt, v_le, v_gt, v_ge, v_isB, v_notB, v_isN, v_notN, v_isNi, v_isNn, bS, lineOk0, dIx_l, dIx_t, cLen_l, cLen_t, asSeq_l, asSeq_t, wipeD, setM, List.getElem?_cons_zero, List.getElem?_cons_succ, List.set_cons_zero, List.set_cons_succ, if_true, if_false, ite_true, ite_false, Bool.false_eq_true, Bool.not_true, Bool.not_false, ak, h2', - v_add]
        exact dIx_pat (by show r < 8; exact hr)
      · have : r = 0 ∨ r = 1 ∨ r = 2 ∨ r = 3 ∨ r = 4 ∨ r = 5 ∨ r = 6 ∨ r = 7 := by omega
        rcases this with rfl | rfl | rfl | rfl | rfl | rfl | rfl | rfl <;> decide
  refine ⟨rs, ⟨p1, p2⟩, ?_⟩
  rw [sRet_ok (d := pat rs) (by rw [v_tupL, p3, bS]; rfl)]
  rfl
theorem check_rates_ok {n : Nat} (hn : Sz n) {ps : List (List Nat)} (h : isPr n ps) {rs : List Nat} (hr : isRt n rs) : m_check_rates [prog ps, pat rs] = some .none := by
  unfold m_check_rates
  rw [run_eq]
  show outO (b_check_rates [.dat (prog ps), .dat (pat rs), .bot]) = _
  unfold b_check_rates
  have hn5 := hn.le
  have cl : cLen [pat rs] = some (.int (n : Int)) := by
    show some (PyData.int ((nums rs).length : Nat)) = _
    rw [nums_length, hr.len]
  have hc : eLc [2] (e1 asSeq (eVar 1)) (hName 2) eYes (eCall m_is_int (eCons (eVar 2) (eCons (eC (.int 0)) (eCons (eC (.int 20)) eNil)))) [.dat (prog ps), .dat (pat rs), .bot] = some (rs.map fun _ => PyData.bool true) :=
    lc_map (fun x : Nat => PyData.int (x : Int)) _ (by rw [hr.len]; omega) (by simp only [v_var, v_own, v_varOf, v_ownOf, v_c, v_1, v_2, v_nil, v_cons, v_call, v_tup, v_lst, v_toL, v_ofL, v_toB, v_ofB, v_not, v_and, v_or, v_if, v_chain, v_ixL, v_part, v_tupL, v_l2, v_yes, v_mNil, v_mDat, v_mOwn, v_divmod, v_asL, v_asT, v_asB, v_asI, v_add, v_sub, v_neg, v_lt, v_le, v_gt, v_ge, v_isB, v_notB, v_isN, v_notN, v_isNi, v_isNn, bS, lineOk0, dIx_l, dIx_t, cLen_l, cLen_t, asSeq_l, asSeq_t, wipeD, setM, List.getElem?_cons_zero, List.getElem?_cons_succ, List.set_cons_zero, List.set_cons_succ, if_true, if_false, ite_true, ite_false, Bool.false_eq_true, Bool.not_true, Bool.not_false, asSeq_pat]; rfl) fun x hx => by
      have := hr.le x hx
      simp only [v_var, v_own, v_varOf, v_ownOf, v_c, v_1, v_2, v_nil, v_cons, v_call, v_tup, v_lst, v_toL, v_ofL, v_toB, v_ofB, v_not, v_and, v_or, v_if, v_chain, v_ixL, v_part, v_tupL, v_l2, v_yes, v_mNil, v_mDat, v_mOwn, v_divmod, v_asL, v_asT, v_asB, v_asI, v_add, v_sub, v_neg, v_lt, v_le, v_gt, v_ge, v_isB, v_notB, v_isN, v_notN, v_isNi, v_isNn, bS, lineOk0, dIx_l, dIx_t, cLen_l, cLen_t, asSeq_l, asSeq_t, wipeD, setM, List.getElem?_cons_zero, List.getElem?_cons_succ, List.set_cons_zero, List.set_cons_succ, if_true, if_false, ite_true, ite_false, Bool.false_eq_true, Bool.not_true, Bool.not_false, is_int_in (i := (x : Int)) (a := 0) (b := 20) (by omega) (by omega)]
  have ca := cAll_map rs (fun _ => true)
  have hall : rs.all (fun _ => true) = true := List.all_eq_true.mpr fun _ _ => rfl
  rw [hall] at ca
  rw [sSeq_nx (sExpr_ok (d := .none) (by simp only [v_var, v_own, v_varOf, v_ownOf, v_c, v_1, v_2, v_nil, v_cons, v_call, v_tup, v_lst, v_toL, v_ofL, v_toB, v_ofB, v_not, v_and, v_or, v_if, v_chain, v_ixL, v_part, v_tupL, v_l2, v_yes, v_mNil, v_mDat, v_mOwn, v_divmod, v_asL, v_asT, v_asB, v_asI, v_add, v_sub, v_neg, v_lt, v_le, v_gt, v_ge, v_isB, v_notB, v_isN, v_notN, v_isNi, v_isNn, bS, lineOk0, dIx_l, dIx_t, cLen_l, cLen_t, asSeq_l, asSeq_t, wipeD, setM, List.getElem?_cons_zero, List.getElem?_cons_succ, List.set_cons_zero, List.set_cons_succ, if_true, if_false, ite_true, ite_false, Bool.false_eq_true, Bool.not_true, Bool.not_false, check_program_ok hn h])), sSeq_nx (sIfN_f (by simp only [v_var, v_own, v_varOf, v_ownOf, v_c, v_1, v_2, v_nil, v_cons, v_call, v_tup, v_lst, v_toL, v_ofL, v_toB, v_ofB, v_not, v_and, v_or, v_if, v_chain, v_ixL, v_part, v_tupL, v_l2, v_yes, v_mNil, v_mDat, v_mOwn, v_divmod, v_asL, v_asT, v_asB, v_asI, v_add, v_sub, v_neg, v_lt, v_le, v_gt, v_ge, v_isB, v_notB, v_isN, v_notN, v_isNi, v_isNn, bS, lineOk0, dIx_l, dIx_t, cLen_l, cLen_t, asSeq_l, asSeq_t, wipeD, setM, List.getElem?_cons_zero, List.getElem?_cons_succ, List.set_cons_zero, List.set_cons_succ, if_true, if_false, ite_true, ite_false, Bool.false_eq_true, Bool.not_true, Bool.not_false, isK_pat, cl, dIx_prog0 h.pos, cLen_pat (nth_P h h.pos), dNe_self (Sh.int (k := 0) (n : Int))])),
    sIfN_f (by simp only [v_var, v_own, v_varOf, v_ownOf, v_c, v_1, v_2, v_nil, v_cons, v_call, v_tup, v_lst, v_toL, v_ofL, v_toB, v_ofB, v_not, v_and, v_or, v_if, v_chain, v_ixL, v_part, v_tupL, v_l2, v_yes, v_mNil, v_mDat, v_mOwn, v_divmod, v_asL, v_asT, v_asB, v_asI, v_add, v_sub, v_neg, v_lt, v_le, v_gt, v_ge, v_isB, v_notB, v_isN, v_notN, v_isNi, v_isNn, bS, lineOk0, dIx_l, dIx_t, cLen_l, cLen_t, asSeq_l, asSeq_t, wipeD, setM, List.getElem?_cons_zero, List.getElem?_cons_succ, List.set_cons_zero, List.set_cons_succ, if_true, if_false, ite_true, ite_false, Bool.false_eq_true, Bool.not_true, Bool.not_false, hc, ca])]
  rfl
/-! ### sums -/
theorem getR (l : List Nat) (t : Nat) (h : t < l.length) : (nums l)[t]? = some (.int ((l.getD t 0 : Nat) : Int)) := by rw [nums_get, getD_get h]; rfl
theorem zip_nums {n : Nat} {p q : List Nat} (hp : p.length = n) (hq : q.length = n) : zipL (nums p) (nums q) = (List.range n).map fun t => PyData.tuple [.int ((p.getD t 0 : Nat) : Int), .int ((q.getD t 0 : Nat) : Int)] := by
  unfold zipL
  apply List.ext_getElem?
  intro i
  rw [List.getElem?_zipWith, List.getElem?_map]
  by_cases hi : i < n
  · rw [getR p i (by omega), getR q i (by omega), List.getElem?_range hi]; rfl
  · have e1 : (nums p)[i]? = none := List.getElem?_eq_none (by rw [nums_length]; omega)
    rw [e1, List.getElem?_eq_none (l := List.range n) (by rw [List.length_range]; omega)]; rfl
/-- a comprehension over a zip of two lists of n numbers -/
theorem lc_zip {vs : List Nat} {a b n : Nat} {z : DE → Option (List D)} {el : DE → Option D} {ρ : DE} {p q : List Nat} (hn : n ≤ 1000) (hp : p.length = n) (hq : q.length = n) (hz : z ρ = some (zipL (nums p) (nums q))) (f : Nat → D)
    (H : ∀ t, t < n → el (((wipeD ρ vs).set a (.dat (.int ((p.getD t 0 : Nat) : Int)))).set b (.dat (.int ((q.getD t 0 : Nat) : Int)))) = some (f t)) :
    eLc vs z (hTup (hsCons (hName a) (hsCons (hName b) hsNil))) eYes el ρ = some ((List.range n).map f) := by
  rw [v_lc, hz, bS, zip_nums hp hq, lineOk_ok (by rw [List.length_map, List.length_range]; omega), bS]
  exact comp_nums (g := fun t => PyData.tuple [.int ((p.getD t 0 : Nat) : Int), .int ((q.getD t 0 : Nat) : Int)]) (f := f) fun t ht => ⟨_, rfl, rfl, H t (List.mem_range.mp ht)⟩
theorem dZip_l (p q : List Nat) : dZip (.list (nums p)) (.list (nums q)) = some (zipL (nums p) (nums q)) := rfl
theorem dZipT_l (p q : List Nat) : dZipT (.list (nums p)) (pat q) = some (zipL (nums p) (nums q)) := rfl
theorem W_nums (n : Nat) (ps : List (List Nat)) (rs : List Nat) (k : Nat) : (List.range n).map (fun t => PyData.int ((w n ps rs t k : Nat) : Int)) = nums (W n ps rs k) := by unfold W; rw [nums_mapN]
theorem wears_last (n : Nat) (ps : List (List Nat)) (rs : List Nat) (k : Nat) : atI (wears n ps rs (k + 1)) (-1) = some (.list (nums (W n ps rs k))) := by
  unfold wears
  rw [upto_succ, atI_last]
theorem wears_len (n : Nat) (ps : List (List Nat)) (rs : List Nat) (m : Nat) : (wears n ps rs m).length = m := upto_len _ _
theorem wears_get {n : Nat} {ps : List (List Nat)} {rs : List Nat} {m k : Nat} (h : k < m) : atI (wears n ps rs m) (k : Int) = some (.list (nums (W n ps rs k))) := upto_get _ h
theorem dIx_r {n : Nat} {rs : List Nat} (hr : isRt n rs) {i : Nat} (h : i < n) : dIx (pat rs) (.int (i : Int)) = some (.int ((rs.getD i 0 : Nat) : Int)) := dIx_pat (by rw [hr.len]; exact h)
theorem start_wear {n : Nat} (hn : Sz n) {ps : List (List Nat)} {rs : List Nat} (hr : isRt n rs) {ρ : DE} (h1 : ρ[1]? = some (.dat (pat rs))) :
    eLst (eCons (eOfL (eRep (eLst (eCons (eC (.int 0)) eNil)) (eCall cLen (eCons (eVar 1) eNil)))) eNil) ρ = some (wears n ps rs 1) := by
  have hn5 := hn.le
  have cl : cLen [pat rs] = some (.int (n : Int)) := by
    show some (PyData.int ((nums rs).length : Nat)) = _
    rw [nums_length, hr.len]
  have e := eRep_ok (g := eLst (eCons (eC (.int 0)) eNil)) (h := eCall cLen (eCons (eVar 1) eNil)) (x := .int 0) (k := n) (ρ := ρ) (by omega) (by simp only [v_var, v_own, v_varOf, v_ownOf, v_c, v_1, v_2, v_nil, v_cons, v_call, v_tup, v_lst, v_toL, v_ofL, v_toB, v_ofB, v_not, v_and, v_or, v_if, v_chain, v_ixL, v_part, v_tupL, v_l2, v_yes, v_mNil, v_mDat, v_mOwn, v_divmod, v_asL, v_asT, v_asB, v_asI, v_add, v_sub, v_neg, v_lt, v_le, v_gt, v_ge, v_isB, v_notB, v_isN, v_notN, v_isNi, v_isNn, bS, lineOk0, dIx_l, dIx_t, cLen_l, cLen_t, asSeq_l, asSeq_t, wipeD, setM, List.getElem?_cons_zero, List.getElem?_cons_succ, List.set_cons_zero, List.set_cons_succ, if_true, if_false, ite_true, ite_false, Bool.false_eq_true, Bool.not_true, Bool.not_false, lineOk1]) (by simp only [v_var, v_own, v_varOf, v_ownOf, v_c, v_1, v_2, v_nil, v_cons, v_call, v_tup, v_lst, v_toL, v_ofL, v_toB, v_ofB, v_not, v_and, v_or, v_if, v_chain, v_ixL, v_part, v_tupL, v_l2, v_yes, v_mNil, v_mDat, v_mOwn, v_divmod, v_asL, v_asT, v_asB, v_asI, v_add, v_sub, v_neg, v_lt, v_le, v_gt, v_ge, v_isB, v_notB, v_isN, v_notN, v_isNi, v_isNn, bS, lineOk0, dIx_l, dIx_t, cLen_l, cLen_t, asSeq_l, asSeq_t, wipeD, setM, List.getElem?_cons_zero, List.getElem?_cons_succ, List.set_cons_zero, List.set_cons_succ, if_true, if_false, ite_true, ite_false, Bool.false_eq_true, Bool.not_true, Bool.not_false, h1, cl])
  rw [v_lst, v_cons, v_ofL, e, nums_zero n, bS, v_nil, bS, bS, bS, lineOk1]
  show _ = some [PyData.list (nums (W n ps rs 0))]
  rw [W_zero]
theorem sums_ok {n : Nat} (hn : Sz n) {ps : List (List Nat)} (h : isPr n ps) {rs : List Nat} (hr : isRt n rs) : m_sums [prog ps, pat rs] = some (.list (wears n ps rs (T n ps + 1))) := by
  unfold m_sums
  rw [run_eq]
  show outO (b_sums [.dat (prog ps), .dat (pat rs), .bot, .bot, .bot, .bot]) = _
  unfold b_sums
  have hn5 := hn.le
  have hT := T_le hn h
  rw [sSeq_nx (sOwn_ok (start_wear (ps := ps) hn hr rfl))]
  simp only [setM, List.set_cons_succ, List.set_cons_zero]
  obtain ⟨ρ', h2, ⟨z3, rfl⟩⟩ := for_inv (h := hName 3) (b := sApp 2 (eOfL (eLc [4, 5] (e2 dZipT (eIxL (eOwn 2) (e1 dNeg (eC (.int 1)))) (eVar 3)) (hTup (hsCons (hName 4) (hsCons (hName 5) hsNil))) eYes (e2 dAdd (eVar 4) (e2 dIx (eVar 1) (eVar 5))))))
    (fun i ρ => ∃ z3 : DV, ρ = [.dat (prog ps), .dat (pat rs), .own (wears n ps rs (i + 1)), z3, .bot, .bot])
    (ds := upto (T n ps) fun k => pat (P n ps k)) (k := 0) (ρ := [.dat (prog ps), .dat (pat rs), .own (wears n ps rs 1), .bot, .bot, .bot]) ⟨.bot, rfl⟩
    (fun i d ρ hd ⟨z3, e⟩ => by
      subst e
      obtain ⟨hi, rfl⟩ := range_get' hd
      rw [List.length_range] at hi
      rw [List.getElem_range, Nat.zero_add]
      refine ⟨_, [.dat (prog ps), .dat (pat rs), .own (wears n ps rs (i + 1 + 1)), .dat (pat (P n ps i)), .bot, .bot], rfl, .inl ?_, _, rfl⟩
      simp only [setM, List.set_cons_succ, List.set_cons_zero]
      rw [sApp_ok (ds := wears n ps rs (i + 1)) (d := .list (nums (W n ps rs (i + 1)))) ?_ rfl (by rw [wears_len]; omega)]
      · simp only [setM, List.set_cons_succ, List.set_cons_zero]
        unfold wears
        rw [upto_succ (i + 1)]
      rw [v_ofL, lc_zip (n := n) (p := W n ps rs i) (q := P n ps i) (by omega) (W_len _ _ _ _) (P_P h i).len (by simp only [v_var, v_own, v_varOf, v_ownOf, v_c, v_1, v_2, v_nil, v_cons, v_call, v_tup, v_lst, v_toL, v_ofL, v_toB, v_ofB, v_not, v_and, v_or, v_if, v_chain, v_ixL, v_part, v_tupL, v_l2, v_yes, v_mNil, v_mDat, v_mOwn, v_divmod, v_asL, v_asT, v_asB, v_asI, v_add, v_sub, v_neg, v_lt, v_le, v_gt, v_ge, v_isB, v_notB, v_isN, v_notN, v_isNi, v_isNn, bS, lineOk0, dIx_l, dIx_t, cLen_l, cLen_t, asSeq_l, asSeq_t, wipeD, setM, List.getElem?_cons_zero, List.getElem?_cons_succ, List.set_cons_zero, List.set_cons_succ, if_true, if_false, ite_true, ite_false, Bool.false_eq_true, Bool.not_true, Bool.not_false, wears_last, dZipT_l]) (fun t => .int ((w n ps rs t (i + 1) : Nat) : Int)) (fun t ht => by
        simp only [v_var, v_own, v_varOf, v_ownOf, v_c, v_1, v_2, v_nil, v_cons, v_call, v_tup, v_lst, v_toL, v_ofL, v_toB, v_ofB, v_not, v_and, v_or, v_if, v_chain, v_ixL, v_part, v_tupL, v_l2, v_yes, v_mNil, v_mDat, v_mOwn, v_divmod, v_asL, v_asT, v_asB, v_asI, v_add, v_sub, v_neg, v_lt, v_le, v_gt, v_ge, v_isB, v_notB, v_isN, v_notN, v_isNi, v_isNn, bS, lineOk0, dIx_l, dIx_t, cLen_l, cLen_t, asSeq_l, asSeq_t, wipeD, setM, List.getElem?_cons_zero, List.getElem?_cons_succ, List.set_cons_zero, List.set_cons_succ, if_true, if_false, ite_true, ite_false, Bool.false_eq_true, Bool.not_true, Bool.not_false, dIx_r hr (getD_lt (P_P h i) ht), W_get ps rs i ht]
        exact (by rw [← Int.natCast_add]; rfl)), bS, W_nums])
  rw [sSeq_nx ((sFor_ok (by simp only [v_var, v_own, v_varOf, v_ownOf, v_c, v_1, v_2, v_nil, v_cons, v_call, v_tup, v_lst, v_toL, v_ofL, v_toB, v_ofB, v_not, v_and, v_or, v_if, v_chain, v_ixL, v_part, v_tupL, v_l2, v_yes, v_mNil, v_mDat, v_mOwn, v_divmod, v_asL, v_asT, v_asB, v_asI, v_add, v_sub, v_neg, v_lt, v_le, v_gt, v_ge, v_isB, v_notB, v_isN, v_notN, v_isNi, v_isNn, bS, lineOk0, dIx_l, dIx_t, cLen_l, cLen_t, asSeq_l, asSeq_t, wipeD, setM, List.getElem?_cons_zero, List.getElem?_cons_succ, List.set_cons_zero, List.set_cons_succ, if_true, if_false, ite_true, ite_false, Bool.false_eq_true, Bool.not_true, Bool.not_false, full_turn_ok hn h])).trans h2), upto_len, Nat.zero_add, sFz_ok rfl]
  simp only [setM, List.set_cons_succ, List.set_cons_zero]
  rw [sRet_ok (d := .list (wears n ps rs (T n ps + 1))) (by simp only [v_var, v_own, v_varOf, v_ownOf, v_c, v_1, v_2, v_nil, v_cons, v_call, v_tup, v_lst, v_toL, v_ofL, v_toB, v_ofB, v_not, v_and, v_or, v_if, v_chain, v_ixL, v_part, v_tupL, v_l2, v_yes, v_mNil, v_mDat, v_mOwn, v_divmod, v_asL, v_asT, v_asB, v_asI, v_add, v_sub, v_neg, v_lt, v_le, v_gt, v_ge, v_isB, v_notB, v_isN, v_notN, v_isNi, v_isNn, bS, lineOk0, dIx_l, dIx_t, cLen_l, cLen_t, asSeq_l, asSeq_t, wipeD, setM, List.getElem?_cons_zero, List.getElem?_cons_succ, List.set_cons_zero, List.set_cons_succ, if_true, if_false, ite_true, ite_false, Bool.false_eq_true, Bool.not_true, Bool.not_false])]
  rfl
end DL

namespace DL
open PySem PySem.Spec L2
theorem find_wear_ok {n : Nat} (hn : Sz n) {ps : List (List Nat)} (h : isPr n ps) {rs : List Nat} (hr : isRt n rs) (k : Nat) (hk : k ≤ 1000000) : m_find_wear [prog ps, pat rs, .int (k : Int)] = some (.list (nums (W n ps rs k))) := by
  unfold m_find_wear
  rw [run_eq]
  show outO (b_find_wear [.dat (prog ps), .dat (pat rs), .dat (.int (k : Int)), .bot, .bot, .bot, .bot, .bot]) = _
  unfold b_find_wear
  have hn5 := hn.le
  have hT := T_le hn h
  have hT0 := T_pos hn h
  have hmod : k % T n ps < T n ps := Nat.mod_lt _ hT0
  have hs : dSub (.int ((T n ps + 1 : Nat) : Int)) (.int 1) = some (.int (T n ps : Nat)) := by
    rw [v_sub]; congr 2; omega
  rw [sSeq_nx (sSet_ok (d := .list (wears n ps rs (T n ps + 1))) (by simp only [v_var, v_own, v_varOf, v_ownOf, v_c, v_1, v_2, v_nil, v_cons, v_call, v_tup, v_lst, v_toL, v_ofL, v_toB, v_ofB, v_not, v_and, v_or, v_if, v_chain, v_ixL, v_part, v_tupL, v_l2, v_yes, v_mNil, v_mDat, v_mOwn, v_divmod, v_asL, v_asT, v_asB, v_asI, v_add, v_sub, v_neg, v_lt, v_le, v_gt, v_ge, v_isB, v_notB, v_isN, v_notN, v_isNi, v_isNn, bS, lineOk0, dIx_l, dIx_t, cLen_l, cLen_t, asSeq_l, asSeq_t, wipeD, setM, List.getElem?_cons_zero, List.getElem?_cons_succ, List.set_cons_zero, List.set_cons_succ, if_true, if_false, ite_true, ite_false, Bool.false_eq_true, Bool.not_true, Bool.not_false, sums_ok hn h hr]))]
  simp only [setM, List.set_cons_succ, List.set_cons_zero]
  rw [sSeq_nx (sAsg_ok (d := .tuple [.int ((k / T n ps : Nat) : Int), .int ((k % T n ps : Nat) : Int)]) (ρ' := [.dat (prog ps), .dat (pat rs), .dat (.int (k : Int)), .dat (.list (wears n ps rs (T n ps + 1))), .dat (.int ((k / T n ps : Nat) : Int)), .dat (.int ((k % T n ps : Nat) : Int)), .bot, .bot]) (by
    rw [v_divmod]
    simp only [v_var, v_own, v_varOf, v_ownOf, v_c, v_1, v_2, v_nil, v_cons, v_call, v_tup, v_lst, v_toL, v_ofL, v_toB, v_ofB, v_not, v_and, v_or, v_if, v_chain, v_ixL, v_part, v_tupL, v_l2, v_yes, v_mNil, v_mDat, v_mOwn, v_divmod, v_asL, v_asT, v_asB, v_asI, v_add, v_sub, v_neg, v_lt, v_le, v_gt, v_ge, v_isB, v_notB, v_isN, v_notN, v_isNi, v_isNn, bS, lineOk0, dIx_l, dIx_t, cLen_l, cLen_t, asSeq_l, asSeq_t, wipeD, setM, List.getElem?_cons_zero, List.getElem?_cons_succ, List.set_cons_zero, List.set_cons_succ, if_true, if_false, ite_true, ite_false, Bool.false_eq_true, Bool.not_true, Bool.not_false, wears_len, hs, - v_sub]
    exact divmodN k (T n ps) hT0 (by omega)) rfl)]
  rw [sRet_ok (d := .list (nums (W n ps rs k))) (by
    rw [v_ofL, lc_zip (n := n) (p := W n ps rs (T n ps)) (q := W n ps rs (k % T n ps)) (by omega) (W_len _ _ _ _) (W_len _ _ _ _) (by simp only [v_var, v_own, v_varOf, v_ownOf, v_c, v_1, v_2, v_nil, v_cons, v_call, v_tup, v_lst, v_toL, v_ofL, v_toB, v_ofB, v_not, v_and, v_or, v_if, v_chain, v_ixL, v_part, v_tupL, v_l2, v_yes, v_mNil, v_mDat, v_mOwn, v_divmod, v_asL, v_asT, v_asB, v_asI, v_add, v_sub, v_neg, v_lt, v_le, v_gt, v_ge, v_isB, v_notB, v_isN, v_notN, v_isNi, v_isNn, bS, lineOk0, dIx_l, dIx_t, cLen_l, cLen_t, asSeq_l, asSeq_t, wipeD, setM, List.getElem?_cons_zero, List.getElem?_cons_succ, List.set_cons_zero, List.set_cons_succ, if_true, if_false, ite_true, ite_false, Bool.false_eq_true, Bool.not_true, Bool.not_false, wears_last, wears_get (n := n) (ps := ps) (rs := rs) (m := T n ps + 1) (k := k % T n ps) (by omega), dZip_l]) (fun t => .int ((w n ps rs t k : Nat) : Int)) (fun t ht => by
      have hw := w_le (ps := ps) hr t (T n ps)
      have e := w_mod hn h rs t k
      rw [W_get ps rs _ ht, W_get ps rs _ ht]
      simp only [v_var, v_own, v_varOf, v_ownOf, v_c, v_1, v_2, v_nil, v_cons, v_call, v_tup, v_lst, v_toL, v_ofL, v_toB, v_ofB, v_not, v_and, v_or, v_if, v_chain, v_ixL, v_part, v_tupL, v_l2, v_yes, v_mNil, v_mDat, v_mOwn, v_divmod, v_asL, v_asT, v_asB, v_asI, v_add, v_sub, v_neg, v_lt, v_le, v_gt, v_ge, v_isB, v_notB, v_isN, v_notN, v_isNi, v_isNn, bS, lineOk0, dIx_l, dIx_t, cLen_l, cLen_t, asSeq_l, asSeq_t, wipeD, setM, List.getElem?_cons_zero, List.getElem?_cons_succ, List.set_cons_zero, List.set_cons_succ, if_true, if_false, ite_true, ite_false, Bool.false_eq_true, Bool.not_true, Bool.not_false, mulN' (k / T n ps) (w n ps rs t (T n ps)) (by omega), addN, - v_add]
      rw [← e]), bS, W_nums])]
  rfl
theorem wear_after_ok {n : Nat} (hn : Sz n) {ps : List (List Nat)} (h : isPr n ps) {rs : List Nat} (hr : isRt n rs) {k : Nat} (hk : k ≤ 1000000) : m_wear_after [prog ps, pat rs, .int (k : Int)] = some (.list (nums (W n ps rs k))) := by
  unfold m_wear_after
  rw [run_eq]
  show outO (b_wear_after [.dat (prog ps), .dat (pat rs), .dat (.int (k : Int))]) = _
  unfold b_wear_after
  rw [sSeq_nx (sExpr_ok (d := .none) (by simp only [v_var, v_own, v_varOf, v_ownOf, v_c, v_1, v_2, v_nil, v_cons, v_call, v_tup, v_lst, v_toL, v_ofL, v_toB, v_ofB, v_not, v_and, v_or, v_if, v_chain, v_ixL, v_part, v_tupL, v_l2, v_yes, v_mNil, v_mDat, v_mOwn, v_divmod, v_asL, v_asT, v_asB, v_asI, v_add, v_sub, v_neg, v_lt, v_le, v_gt, v_ge, v_isB, v_notB, v_isN, v_notN, v_isNi, v_isNn, bS, lineOk0, dIx_l, dIx_t, cLen_l, cLen_t, asSeq_l, asSeq_t, wipeD, setM, List.getElem?_cons_zero, List.getElem?_cons_succ, List.set_cons_zero, List.set_cons_succ, if_true, if_false, ite_true, ite_false, Bool.false_eq_true, Bool.not_true, Bool.not_false, check_rates_ok hn h hr])), sSeq_nx (sExpr_ok (d := .none) (by simp only [v_var, v_own, v_varOf, v_ownOf, v_c, v_1, v_2, v_nil, v_cons, v_call, v_tup, v_lst, v_toL, v_ofL, v_toB, v_ofB, v_not, v_and, v_or, v_if, v_chain, v_ixL, v_part, v_tupL, v_l2, v_yes, v_mNil, v_mDat, v_mOwn, v_divmod, v_asL, v_asT, v_asB, v_asI, v_add, v_sub, v_neg, v_lt, v_le, v_gt, v_ge, v_isB, v_notB, v_isN, v_notN, v_isNi, v_isNn, bS, lineOk0, dIx_l, dIx_t, cLen_l, cLen_t, asSeq_l, asSeq_t, wipeD, setM, List.getElem?_cons_zero, List.getElem?_cons_succ, List.set_cons_zero, List.set_cons_succ, if_true, if_false, ite_true, ite_false, Bool.false_eq_true, Bool.not_true, Bool.not_false, check_number_ok k hk])), sRet_ok (d := .list (nums (W n ps rs k))) (by simp only [v_var, v_own, v_varOf, v_ownOf, v_c, v_1, v_2, v_nil, v_cons, v_call, v_tup, v_lst, v_toL, v_ofL, v_toB, v_ofB, v_not, v_and, v_or, v_if, v_chain, v_ixL, v_part, v_tupL, v_l2, v_yes, v_mNil, v_mDat, v_mOwn, v_divmod, v_asL, v_asT, v_asB, v_asI, v_add, v_sub, v_neg, v_lt, v_le, v_gt, v_ge, v_isB, v_notB, v_isN, v_notN, v_isNi, v_isNn, bS, lineOk0, dIx_l, dIx_t, cLen_l, cLen_t, asSeq_l, asSeq_t, wipeD, setM, List.getElem?_cons_zero, List.getElem?_cons_succ, List.set_cons_zero, List.set_cons_succ, if_true, if_false, ite_true, ite_false, Bool.false_eq_true, Bool.not_true, Bool.not_false, find_wear_ok hn h hr k hk])]
  rfl
/-! ### the greatest and the least -/
def mx (l : List Nat) : Int := (maxI (l.map fun (x : Nat) => (x : Int))).getD 0
def mn (l : List Nat) : Int := (minI (l.map fun (x : Nat) => (x : Int))).getD 0
def spr (l : List Nat) : Int := mx l - mn l
theorem cMax_nums {l : List Nat} (h : l ≠ []) : cMax [.list (nums l)] = some (.int (mx l)) := by
  cases l with
  | nil => exact absurd rfl h
  | cons x l =>
    show ((asIs (nums (x :: l))).bind maxI).bind _ = _
    rw [asIs_nums]
    rfl
theorem cMin_nums {l : List Nat} (h : l ≠ []) : cMin [.list (nums l)] = some (.int (mn l)) := by
  cases l with
  | nil => exact absurd rfl h
  | cons x l =>
    show ((asIs (nums (x :: l))).bind minI).bind _ = _
    rw [asIs_nums]
    rfl
theorem W_ne {n : Nat} (hn : Sz n) (ps : List (List Nat)) (rs : List Nat) (k : Nat) : W n ps rs k ≠ [] := by
  have := hn.ge
  have e := W_len n ps rs k
  intro z
  rw [z] at e
  simp at e
  omega
theorem spread_ok {l : List Nat} (h : l ≠ []) : m_spread [.list (nums l)] = some (.int (spr l)) := by
  unfold m_spread
  rw [run_eq]
  show outO (b_spread [.dat (.list (nums l))]) = _
  unfold b_spread
  rw [sRet_ok (d := .int (spr l)) (by simp only [v_var, v_own, v_varOf, v_ownOf, v_c, v_1, v_2, v_nil, v_cons, v_call, v_tup, v_lst, v_toL, v_ofL, v_toB, v_ofB, v_not, v_and, v_or, v_if, v_chain, v_ixL, v_part, v_tupL, v_l2, v_yes, v_mNil, v_mDat, v_mOwn, v_divmod, v_asL, v_asT, v_asB, v_asI, v_add, v_sub, v_neg, v_lt, v_le, v_gt, v_ge, v_isB, v_notB, v_isN, v_notN, v_isNi, v_isNn, bS, lineOk0, dIx_l, dIx_t, cLen_l, cLen_t, asSeq_l, asSeq_t, wipeD, setM, List.getElem?_cons_zero, List.getElem?_cons_succ, List.set_cons_zero, List.set_cons_succ, if_true, if_false, ite_true, ite_false, Bool.false_eq_true, Bool.not_true, Bool.not_false, cMax_nums h, cMin_nums h]; rfl)]
  rfl
theorem spread_after_ok {n : Nat} (hn : Sz n) {ps : List (List Nat)} (h : isPr n ps) {rs : List Nat} (hr : isRt n rs) {k : Nat} (hk : k ≤ 1000000) : m_spread_after [prog ps, pat rs, .int (k : Int)] = some (.int (spr (W n ps rs k))) := by
  unfold m_spread_after
  rw [run_eq]
  show outO (b_spread_after [.dat (prog ps), .dat (pat rs), .dat (.int (k : Int))]) = _
  unfold b_spread_after
  rw [sSeq_nx (sExpr_ok (d := .none) (by simp only [v_var, v_own, v_varOf, v_ownOf, v_c, v_1, v_2, v_nil, v_cons, v_call, v_tup, v_lst, v_toL, v_ofL, v_toB, v_ofB, v_not, v_and, v_or, v_if, v_chain, v_ixL, v_part, v_tupL, v_l2, v_yes, v_mNil, v_mDat, v_mOwn, v_divmod, v_asL, v_asT, v_asB, v_asI, v_add, v_sub, v_neg, v_lt, v_le, v_gt, v_ge, v_isB, v_notB, v_isN, v_notN, v_isNi, v_isNn, bS, lineOk0, dIx_l, dIx_t, cLen_l, cLen_t, asSeq_l, asSeq_t, wipeD, setM, List.getElem?_cons_zero, List.getElem?_cons_succ, List.set_cons_zero, List.set_cons_succ, if_true, if_false, ite_true, ite_false, Bool.false_eq_true, Bool.not_true, Bool.not_false, check_rates_ok hn h hr])), sSeq_nx (sExpr_ok (d := .none) (by simp only [v_var, v_own, v_varOf, v_ownOf, v_c, v_1, v_2, v_nil, v_cons, v_call, v_tup, v_lst, v_toL, v_ofL, v_toB, v_ofB, v_not, v_and, v_or, v_if, v_chain, v_ixL, v_part, v_tupL, v_l2, v_yes, v_mNil, v_mDat, v_mOwn, v_divmod, v_asL, v_asT, v_asB, v_asI, v_add, v_sub, v_neg, v_lt, v_le, v_gt, v_ge, v_isB, v_notB, v_isN, v_notN, v_isNi, v_isNn, bS, lineOk0, dIx_l, dIx_t, cLen_l, cLen_t, asSeq_l, asSeq_t, wipeD, setM, List.getElem?_cons_zero, List.getElem?_cons_succ, List.set_cons_zero, List.set_cons_succ, if_true, if_false, ite_true, ite_false, Bool.false_eq_true, Bool.not_true, Bool.not_false, check_number_ok k hk])), sRet_ok (d := .int (spr (W n ps rs k))) (by simp only [v_var, v_own, v_varOf, v_ownOf, v_c, v_1, v_2, v_nil, v_cons, v_call, v_tup, v_lst, v_toL, v_ofL, v_toB, v_ofB, v_not, v_and, v_or, v_if, v_chain, v_ixL, v_part, v_tupL, v_l2, v_yes, v_mNil, v_mDat, v_mOwn, v_divmod, v_asL, v_asT, v_asB, v_asI, v_add, v_sub, v_neg, v_lt, v_le, v_gt, v_ge, v_isB, v_notB, v_isN, v_notN, v_isNi, v_isNn, bS, lineOk0, dIx_l, dIx_t, cLen_l, cLen_t, asSeq_l, asSeq_t, wipeD, setM, List.getElem?_cons_zero, List.getElem?_cons_succ, List.set_cons_zero, List.set_cons_succ, if_true, if_false, ite_true, ite_false, Bool.false_eq_true, Bool.not_true, Bool.not_false, find_wear_ok hn h hr k hk, spread_ok (W_ne hn ps rs k)])]
  rfl
def stays (n : Nat) (ps : List (List Nat)) (rs : List Nat) : Bool := decide (spr (W n ps rs (T n ps)) = 0)
theorem stays_ok {n : Nat} (hn : Sz n) {ps : List (List Nat)} (h : isPr n ps) {rs : List Nat} (hr : isRt n rs) : m_stays [prog ps, pat rs] = some (.bool (stays n ps rs)) := by
  unfold m_stays
  rw [run_eq]
  show outO (b_stays [.dat (prog ps), .dat (pat rs)]) = _
  unfold b_stays
  rw [sRet_ok (d := .bool (stays n ps rs)) (by simp only [v_var, v_own, v_varOf, v_ownOf, v_c, v_1, v_2, v_nil, v_cons, v_call, v_tup, v_lst, v_toL, v_ofL, v_toB, v_ofB, v_not, v_and, v_or, v_if, v_chain, v_ixL, v_part, v_tupL, v_l2, v_yes, v_mNil, v_mDat, v_mOwn, v_divmod, v_asL, v_asT, v_asB, v_asI, v_add, v_sub, v_neg, v_lt, v_le, v_gt, v_ge, v_isB, v_notB, v_isN, v_notN, v_isNi, v_isNn, bS, lineOk0, dIx_l, dIx_t, cLen_l, cLen_t, asSeq_l, asSeq_t, wipeD, setM, List.getElem?_cons_zero, List.getElem?_cons_succ, List.set_cons_zero, List.set_cons_succ, if_true, if_false, ite_true, ite_false, Bool.false_eq_true, Bool.not_true, Bool.not_false, sums_ok hn h hr, wears_last, spread_ok (W_ne hn ps rs _), dEq_int]; rfl)]
  rfl
theorem is_bounded_ok {n : Nat} (hn : Sz n) {ps : List (List Nat)} (h : isPr n ps) {rs : List Nat} (hr : isRt n rs) : m_is_bounded [prog ps, pat rs] = some (.bool (stays n ps rs)) := by
  unfold m_is_bounded
  rw [run_eq]
  show outO (b_is_bounded [.dat (prog ps), .dat (pat rs)]) = _
  unfold b_is_bounded
  rw [sSeq_nx (sExpr_ok (d := .none) (by simp only [v_var, v_own, v_varOf, v_ownOf, v_c, v_1, v_2, v_nil, v_cons, v_call, v_tup, v_lst, v_toL, v_ofL, v_toB, v_ofB, v_not, v_and, v_or, v_if, v_chain, v_ixL, v_part, v_tupL, v_l2, v_yes, v_mNil, v_mDat, v_mOwn, v_divmod, v_asL, v_asT, v_asB, v_asI, v_add, v_sub, v_neg, v_lt, v_le, v_gt, v_ge, v_isB, v_notB, v_isN, v_notN, v_isNi, v_isNn, bS, lineOk0, dIx_l, dIx_t, cLen_l, cLen_t, asSeq_l, asSeq_t, wipeD, setM, List.getElem?_cons_zero, List.getElem?_cons_succ, List.set_cons_zero, List.set_cons_succ, if_true, if_false, ite_true, ite_false, Bool.false_eq_true, Bool.not_true, Bool.not_false, check_rates_ok hn h hr])), sRet_ok (d := .bool (stays n ps rs)) (by simp only [v_var, v_own, v_varOf, v_ownOf, v_c, v_1, v_2, v_nil, v_cons, v_call, v_tup, v_lst, v_toL, v_ofL, v_toB, v_ofB, v_not, v_and, v_or, v_if, v_chain, v_ixL, v_part, v_tupL, v_l2, v_yes, v_mNil, v_mDat, v_mOwn, v_divmod, v_asL, v_asT, v_asB, v_asI, v_add, v_sub, v_neg, v_lt, v_le, v_gt, v_ge, v_isB, v_notB, v_isN, v_notN, v_isNi, v_isNn, bS, lineOk0, dIx_l, dIx_t, cLen_l, cLen_t, asSeq_l, asSeq_t, wipeD, setM, List.getElem?_cons_zero, List.getElem?_cons_succ, List.set_cons_zero, List.set_cons_succ, if_true, if_false, ite_true, ite_false, Bool.false_eq_true, Bool.not_true, Bool.not_false, stays_ok hn h hr])]
  rfl
/-- the greatest of some numbers -/
def mxI (l : List Int) : Int := (maxI l).getD 0
theorem cMax_ints {l : List Int} (h : l ≠ []) : cMax [.list (l.map PyData.int)] = some (.int (mxI l)) := by
  cases l with
  | nil => exact absurd rfl h
  | cons x l =>
    show ((asIs ((x :: l).map PyData.int)).bind maxI).bind _ = _
    rw [asIs_map]
    rfl
def gaps (n : Nat) (ps : List (List Nat)) (rs : List Nat) (m : Nat) : List Int := (List.range m).map fun k => spr (W n ps rs k)
theorem greatest_spread_ok {n : Nat} (hn : Sz n) {ps : List (List Nat)} (h : isPr n ps) {rs : List Nat} (hr : isRt n rs) : m_greatest_spread [prog ps, pat rs] = some (if stays n ps rs = true then .int (mxI (gaps n ps rs (T n ps + 1))) else .none) := by
  unfold m_greatest_spread
  rw [run_eq]
  show outO (b_greatest_spread [.dat (prog ps), .dat (pat rs), .bot]) = _
  unfold b_greatest_spread
  have hT := T_le hn h
  rw [sSeq_nx (sExpr_ok (d := .none) (by simp only [v_var, v_own, v_varOf, v_ownOf, v_c, v_1, v_2, v_nil, v_cons, v_call, v_tup, v_lst, v_toL, v_ofL, v_toB, v_ofB, v_not, v_and, v_or, v_if, v_chain, v_ixL, v_part, v_tupL, v_l2, v_yes, v_mNil, v_mDat, v_mOwn, v_divmod, v_asL, v_asT, v_asB, v_asI, v_add, v_sub, v_neg, v_lt, v_le, v_gt, v_ge, v_isB, v_notB, v_isN, v_notN, v_isNi, v_isNn, bS, lineOk0, dIx_l, dIx_t, cLen_l, cLen_t, asSeq_l, asSeq_t, wipeD, setM, List.getElem?_cons_zero, List.getElem?_cons_succ, List.set_cons_zero, List.set_cons_succ, if_true, if_false, ite_true, ite_false, Bool.false_eq_true, Bool.not_true, Bool.not_false, check_rates_ok hn h hr]))]
  cases hs : stays n ps rs with
  | false =>
    rw [sSeq_ret (d := .none) ((sIf_t (by simp only [v_var, v_own, v_varOf, v_ownOf, v_c, v_1, v_2, v_nil, v_cons, v_call, v_tup, v_lst, v_toL, v_ofL, v_toB, v_ofB, v_not, v_and, v_or, v_if, v_chain, v_ixL, v_part, v_tupL, v_l2, v_yes, v_mNil, v_mDat, v_mOwn, v_divmod, v_asL, v_asT, v_asB, v_asI, v_add, v_sub, v_neg, v_lt, v_le, v_gt, v_ge, v_isB, v_notB, v_isN, v_notN, v_isNi, v_isNn, bS, lineOk0, dIx_l, dIx_t, cLen_l, cLen_t, asSeq_l, asSeq_t, wipeD, setM, List.getElem?_cons_zero, List.getElem?_cons_succ, List.set_cons_zero, List.set_cons_succ, if_true, if_false, ite_true, ite_false, Bool.false_eq_true, Bool.not_true, Bool.not_false, stays_ok hn h hr, hs])).trans (sRet_ok (by simp only [v_var, v_own, v_varOf, v_ownOf, v_c, v_1, v_2, v_nil, v_cons, v_call, v_tup, v_lst, v_toL, v_ofL, v_toB, v_ofB, v_not, v_and, v_or, v_if, v_chain, v_ixL, v_part, v_tupL, v_l2, v_yes, v_mNil, v_mDat, v_mOwn, v_divmod, v_asL, v_asT, v_asB, v_asI, v_add, v_sub, v_neg, v_lt, v_le, v_gt, v_ge, v_isB, v_notB, v_isN, v_notN, v_isNi, v_isNn, bS, lineOk0, dIx_l, dIx_t, cLen_l, cLen_t, asSeq_l, asSeq_t, wipeD, setM, List.getElem?_cons_zero, List.getElem?_cons_succ, List.set_cons_zero, List.set_cons_succ, if_true, if_false, ite_true, ite_false, Bool.false_eq_true, Bool.not_true, Bool.not_false])))]
    rfl
  | true =>
    have hc : eLc [2] (e1 asSeq (eCall m_sums (eCons (eVar 0) (eCons (eVar 1) eNil)))) (hName 2) eYes (eCall m_spread (eCons (eVar 2) eNil)) [.dat (prog ps), .dat (pat rs), .bot] = some ((List.range (T n ps + 1)).map fun k => PyData.int (spr (W n ps rs k))) :=
      lc_map (xs := List.range (T n ps + 1)) (fun k => .list (nums (W n ps rs k))) _ (by rw [List.length_range]; omega) (by simp only [v_var, v_own, v_varOf, v_ownOf, v_c, v_1, v_2, v_nil, v_cons, v_call, v_tup, v_lst, v_toL, v_ofL, v_toB, v_ofB, v_not, v_and, v_or, v_if, v_chain, v_ixL, v_part, v_tupL, v_l2, v_yes, v_mNil, v_mDat, v_mOwn, v_divmod, v_asL, v_asT, v_asB, v_asI, v_add, v_sub, v_neg, v_lt, v_le, v_gt, v_ge, v_isB, v_notB, v_isN, v_notN, v_isNi, v_isNn, bS, lineOk0, dIx_l, dIx_t, cLen_l, cLen_t, asSeq_l, asSeq_t, wipeD, setM, List.getElem?_cons_zero, List.getElem?_cons_succ, List.set_cons_zero, List.set_cons_succ, if_true, if_false, ite_true, ite_false, Bool.false_eq_true, Bool.not_true, Bool.not_false, sums_ok hn h hr]; rfl) fun k hk => by
        simp only [v_var, v_own, v_varOf, v_ownOf, v_c, v_1, v_2, v_nil, v_cons, v_call, v_tup, v_lst, v_toL, v_ofL, v_toB, v_ofB, v_not, v_and, v_or, v_if, v_chain, v_ixL, v_part, v_tupL, v_l2, v_yes, v_mNil, v_mDat, v_mOwn, v_divmod, v_asL, v_asT, v_asB, v_asI, v_add, v_sub, v_neg, v_lt, v_le, v_gt, v_ge, v_isB, v_notB, v_isN, v_notN, v_isNi, v_isNn, bS, lineOk0, dIx_l, dIx_t, cLen_l, cLen_t, asSeq_l, asSeq_t, wipeD, setM, List.getElem?_cons_zero, List.getElem?_cons_succ, List.set_cons_zero, List.set_cons_succ, if_true, if_false, ite_true, ite_false, Bool.false_eq_true, Bool.not_true, Bool.not_false, spread_ok (W_ne hn ps rs k)]
    have hg : gaps n ps rs (T n ps + 1) ≠ [] := by
      intro z
      have := congrArg List.length z
      unfold gaps at this
      rw [List.length_map, List.length_range] at this
      cases this
    have hm := cMax_ints hg
    unfold gaps at hm
    rw [List.map_map] at hm
    rw [sSeq_nx (sIfN_f (by simp only [v_var, v_own, v_varOf, v_ownOf, v_c, v_1, v_2, v_nil, v_cons, v_call, v_tup, v_lst, v_toL, v_ofL, v_toB, v_ofB, v_not, v_and, v_or, v_if, v_chain, v_ixL, v_part, v_tupL, v_l2, v_yes, v_mNil, v_mDat, v_mOwn, v_divmod, v_asL, v_asT, v_asB, v_asI, v_add, v_sub, v_neg, v_lt, v_le, v_gt, v_ge, v_isB, v_notB, v_isN, v_notN, v_isNi, v_isNn, bS, lineOk0, dIx_l, dIx_t, cLen_l, cLen_t, asSeq_l, asSeq_t, wipeD, setM, List.getElem?_cons_zero, List.getElem?_cons_succ, List.set_cons_zero, List.set_cons_succ, if_true, if_false, ite_true, ite_false, Bool.false_eq_true, Bool.not_true, Bool.not_false, stays_ok hn h hr, hs])), sRet_ok (d := .int (mxI (gaps n ps rs (T n ps + 1)))) (by
      simp only [v_var, v_own, v_varOf, v_ownOf, v_c, v_1, v_2, v_nil, v_cons, v_call, v_tup, v_lst, v_toL, v_ofL, v_toB, v_ofB, v_not, v_and, v_or, v_if, v_chain, v_ixL, v_part, v_tupL, v_l2, v_yes, v_mNil, v_mDat, v_mOwn, v_divmod, v_asL, v_asT, v_asB, v_asI, v_add, v_sub, v_neg, v_lt, v_le, v_gt, v_ge, v_isB, v_notB, v_isN, v_notN, v_isNi, v_isNn, bS, lineOk0, dIx_l, dIx_t, cLen_l, cLen_t, asSeq_l, asSeq_t, wipeD, setM, List.getElem?_cons_zero, List.getElem?_cons_succ, List.set_cons_zero, List.set_cons_succ, if_true, if_false, ite_true, ite_false, Bool.false_eq_true, Bool.not_true, Bool.not_false, hc]
      exact hm)]
    rfl
/-! ### the law's own wear -/
theorem cut_rows {n : Nat} (ps : List (List Nat)) (m : Nat) : cutD (rowsD n ps (m + 1)) none (some (m : Int)) = rowsD n ps m := by
  rw [cut_to]
  unfold rowsD upto
  rw [← List.map_take, List.take_range, Nat.min_eq_left (by omega)]
theorem use_ok {n : Nat} (hn : Sz n) {ps : List (List Nat)} (h : isPr n ps) {rs : List Nat} (hr : isRt n rs) (m : Nat) (hm : m ≤ 100000) : m__law_use [prog ps, pat rs, .int (m : Int)] = some (.list (wears n ps rs (m + 1))) := by
  unfold m__law_use
  rw [run_eq]
  show outO (b__law_use [.dat (prog ps), .dat (pat rs), .dat (.int (m : Int)), .bot, .bot, .bot]) = _
  unfold b__law_use
  have hn5 := hn.le
  have cl : cLen [pat rs] = some (.int (n : Int)) := by
    show some (PyData.int ((nums rs).length : Nat)) = _
    rw [nums_length, hr.len]
  rw [sSeq_nx (sOwn_ok (start_wear (ps := ps) hn hr rfl))]
  simp only [setM, List.set_cons_succ, List.set_cons_zero]
  obtain ⟨ρ', h2, ⟨z4, rfl⟩⟩ := for_inv (h := hName 4) (b := sApp 3 (eOfL (eLc [5] (e1 rng1 (eCall cLen (eCons (eVar 1) eNil))) (hName 5) eYes (e2 dAdd (e2 dIx (eIxL (eOwn 3) (e1 dNeg (eC (.int 1)))) (eVar 5)) (e2 dIx (eVar 1) (e2 dIndex (eVar 4) (eVar 5)))))))
    (fun i ρ => ∃ z4 : DV, ρ = [.dat (prog ps), .dat (pat rs), .dat (.int (m : Int)), .own (wears n ps rs (i + 1)), z4, .bot])
    (ds := rowsD n ps m) (k := 0) (ρ := [.dat (prog ps), .dat (pat rs), .dat (.int (m : Int)), .own (wears n ps rs 1), .bot, .bot]) ⟨.bot, rfl⟩
    (fun i d ρ hd ⟨z4, e⟩ => by
      subst e
      obtain ⟨hi, rfl⟩ := range_get' hd
      rw [List.length_range] at hi
      rw [List.getElem_range, Nat.zero_add]
      refine ⟨_, [.dat (prog ps), .dat (pat rs), .dat (.int (m : Int)), .own (wears n ps rs (i + 1 + 1)), .dat (.list (nums (row n ps i))), .bot], rfl, .inl ?_, _, rfl⟩
      simp only [setM, List.set_cons_succ, List.set_cons_zero]
      rw [sApp_ok (ds := wears n ps rs (i + 1)) (d := .list (nums (W n ps rs (i + 1)))) ?_ rfl (by rw [wears_len]; omega)]
      · simp only [setM, List.set_cons_succ, List.set_cons_zero]
        unfold wears
        rw [upto_succ (i + 1)]
      rw [v_ofL, lc_rg (n := n) (by omega) (by simp only [v_var, v_own, v_varOf, v_ownOf, v_c, v_1, v_2, v_nil, v_cons, v_call, v_tup, v_lst, v_toL, v_ofL, v_toB, v_ofB, v_not, v_and, v_or, v_if, v_chain, v_ixL, v_part, v_tupL, v_l2, v_yes, v_mNil, v_mDat, v_mOwn, v_divmod, v_asL, v_asT, v_asB, v_asI, v_add, v_sub, v_neg, v_lt, v_le, v_gt, v_ge, v_isB, v_notB, v_isN, v_notN, v_isNi, v_isNn, bS, lineOk0, dIx_l, dIx_t, cLen_l, cLen_t, asSeq_l, asSeq_t, wipeD, setM, List.getElem?_cons_zero, List.getElem?_cons_succ, List.set_cons_zero, List.set_cons_succ, if_true, if_false, ite_true, ite_false, Bool.false_eq_true, Bool.not_true, Bool.not_false, cl]) (fun t => .int ((w n ps rs t (i + 1) : Nat) : Int)) (fun t ht => by
        simp only [v_var, v_own, v_varOf, v_ownOf, v_c, v_1, v_2, v_nil, v_cons, v_call, v_tup, v_lst, v_toL, v_ofL, v_toB, v_ofB, v_not, v_and, v_or, v_if, v_chain, v_ixL, v_part, v_tupL, v_l2, v_yes, v_mNil, v_mDat, v_mOwn, v_divmod, v_asL, v_asT, v_asB, v_asI, v_add, v_sub, v_neg, v_lt, v_le, v_gt, v_ge, v_isB, v_notB, v_isN, v_notN, v_isNi, v_isNn, bS, lineOk0, dIx_l, dIx_t, cLen_l, cLen_t, asSeq_l, asSeq_t, wipeD, setM, List.getElem?_cons_zero, List.getElem?_cons_succ, List.set_cons_zero, List.set_cons_succ, if_true, if_false, ite_true, ite_false, Bool.false_eq_true, Bool.not_true, Bool.not_false, wears_last, idx_row hn h i ht, dIx_r hr (getD_lt (P_P h i) ht), atI_nums (p := W n ps rs i) (i := t) (by rw [W_len]; exact ht), W_get ps rs i ht]
        exact (by rw [← Int.natCast_add]; rfl)), bS, W_nums])
  have hw := walk_ok hn h m hm
  rw [sSeq_nx ((sFor_ok (ds := rowsD n ps m) (by
    rw [v_1, v_slice_l (ds := rowsD n ps (m + 1)) (l := none) (u := some (m : Int)) _ _ _ _ (by simp only [v_var, v_own, v_varOf, v_ownOf, v_c, v_1, v_2, v_nil, v_cons, v_call, v_tup, v_lst, v_toL, v_ofL, v_toB, v_ofB, v_not, v_and, v_or, v_if, v_chain, v_ixL, v_part, v_tupL, v_l2, v_yes, v_mNil, v_mDat, v_mOwn, v_divmod, v_asL, v_asT, v_asB, v_asI, v_add, v_sub, v_neg, v_lt, v_le, v_gt, v_ge, v_isB, v_notB, v_isN, v_notN, v_isNi, v_isNn, bS, lineOk0, dIx_l, dIx_t, cLen_l, cLen_t, asSeq_l, asSeq_t, wipeD, setM, List.getElem?_cons_zero, List.getElem?_cons_succ, List.set_cons_zero, List.set_cons_succ, if_true, if_false, ite_true, ite_false, Bool.false_eq_true, Bool.not_true, Bool.not_false, hw]) rfl (by simp only [v_var, v_own, v_varOf, v_ownOf, v_c, v_1, v_2, v_nil, v_cons, v_call, v_tup, v_lst, v_toL, v_ofL, v_toB, v_ofB, v_not, v_and, v_or, v_if, v_chain, v_ixL, v_part, v_tupL, v_l2, v_yes, v_mNil, v_mDat, v_mOwn, v_divmod, v_asL, v_asT, v_asB, v_asI, v_add, v_sub, v_neg, v_lt, v_le, v_gt, v_ge, v_isB, v_notB, v_isN, v_notN, v_isNi, v_isNn, bS, lineOk0, dIx_l, dIx_t, cLen_l, cLen_t, asSeq_l, asSeq_t, wipeD, setM, List.getElem?_cons_zero, List.getElem?_cons_succ, List.set_cons_zero, List.set_cons_succ, if_true, if_false, ite_true, ite_false, Bool.false_eq_true, Bool.not_true, Bool.not_false]), cut_rows, bS]
    rfl)).trans h2)]
  have e : (rowsD n ps m).length = m := upto_len _ _
  rw [e, Nat.zero_add, sFz_ok rfl]
  simp only [setM, List.set_cons_succ, List.set_cons_zero]
  rw [sRet_ok (d := .list (wears n ps rs (m + 1))) (by simp only [v_var, v_own, v_varOf, v_ownOf, v_c, v_1, v_2, v_nil, v_cons, v_call, v_tup, v_lst, v_toL, v_ofL, v_toB, v_ofB, v_not, v_and, v_or, v_if, v_chain, v_ixL, v_part, v_tupL, v_l2, v_yes, v_mNil, v_mDat, v_mOwn, v_divmod, v_asL, v_asT, v_asB, v_asI, v_add, v_sub, v_neg, v_lt, v_le, v_gt, v_ge, v_isB, v_notB, v_isN, v_notN, v_isNi, v_isNn, bS, lineOk0, dIx_l, dIx_t, cLen_l, cLen_t, asSeq_l, asSeq_t, wipeD, setM, List.getElem?_cons_zero, List.getElem?_cons_succ, List.set_cons_zero, List.set_cons_succ, if_true, if_false, ite_true, ite_false, Bool.false_eq_true, Bool.not_true, Bool.not_false])]
  rfl
end DL

namespace DL
open PySem PySem.Spec L2
/-! ### sums of wear -/
def sm (l : List Nat) : Int := (l.map fun (x : Nat) => (x : Int)).sum
theorem cSum_nums (l : List Nat) : cSum [.list (nums l)] = some (.int (sm l)) := by
  show (asIs (nums l)).bind _ = _
  rw [asIs_nums]
  rfl
theorem cSum_pat (l : List Nat) : cSum [pat l] = some (.int (sm l)) := by
  show (asIs (nums l)).bind _ = _
  rw [asIs_nums]
  rfl
theorem sum_add {α : Type} (f g : α → Int) : ∀ l : List α, (l.map fun x => f x + g x).sum = (l.map f).sum + (l.map g).sum
  | [] => rfl
  | x :: l => by
    rw [List.map_cons, List.map_cons, List.map_cons, List.sum_cons, List.sum_cons, List.sum_cons, sum_add f g l]
    omega
theorem sum_perm {a b : List Int} (h : a.Perm b) : a.sum = b.sum := by
  induction h with
  | nil => rfl
  | cons x _ ih => rw [List.sum_cons, List.sum_cons, ih]
  | swap x y l => rw [List.sum_cons, List.sum_cons, List.sum_cons, List.sum_cons]; omega
  | trans _ _ h1 h2 => exact h1.trans h2
theorem P_perm {n : Nat} (hn : Sz n) {p : List Nat} (hp : isP n p) : p.Perm (List.range n) := by
  have := look (f := fun n p => p.isPerm (List.range n)) (by decide +kernel) hn hp
  exact List.isPerm_iff.mp this
theorem map_get {n : Nat} {p : List Nat} (hp : p.length = n) (f : Nat → Int) : (List.range n).map (fun t => f (p.getD t 0)) = p.map f := by
  apply List.ext_getElem?
  intro i
  rw [List.getElem?_map, List.getElem?_map]
  by_cases hi : i < n
  · rw [List.getElem?_range hi, getD_get (p := p) (i := i) (by omega)]; rfl
  · rw [List.getElem?_eq_none (l := List.range n) (by rw [List.length_range]; omega), List.getElem?_eq_none (l := p) (by omega)]; rfl
theorem sm_rates {n : Nat} (hn : Sz n) {p : List Nat} (hp : isP n p) {rs : List Nat} (hr : isRt n rs) : ((List.range n).map fun t => ((rs.getD (p.getD t 0) 0 : Nat) : Int)).sum = sm rs := by
  rw [map_get hp.len (fun x => ((rs.getD x 0 : Nat) : Int)), sum_perm ((P_perm hn hp).map _), map_get (p := rs) hr.len (fun (x : Nat) => (x : Int))]
  rfl
theorem sm_W {n : Nat} (hn : Sz n) {ps : List (List Nat)} (h : isPr n ps) {rs : List Nat} (hr : isRt n rs) : ∀ k : Nat, sm (W n ps rs k) = (k : Int) * sm rs
  | 0 => by
    rw [W_zero]
    unfold sm
    rw [List.map_replicate, List.sum_replicate_int]
    simp
  | k + 1 => by
    have ih := sm_W hn h hr k
    unfold sm W at ih ⊢
    rw [List.map_map] at ih ⊢
    have e : (List.range n).map ((fun (x : Nat) => (x : Int)) ∘ fun t => w n ps rs t (k + 1)) = (List.range n).map fun t => ((w n ps rs t k : Nat) : Int) + ((rs.getD ((P n ps k).getD t 0) 0 : Nat) : Int) := by
      refine List.map_congr_left fun t _ => ?_
      show (((w n ps rs t k + rs.getD ((P n ps k).getD t 0) 0 : Nat)) : Int) = _
      rw [Int.natCast_add]
    rw [e, sum_add]
    have e2 := sm_rates hn (P_P h k) hr
    rw [e2]
    have e3 : ((List.range n).map fun t => ((w n ps rs t k : Nat) : Int)).sum = (k : Int) * sm rs := ih
    rw [e3, Int.natCast_add, Int.add_mul]
    unfold sm
    simp
/-! ### the greatest and the least, by what they are -/
theorem mx_ge {l : List Nat} {x : Nat} (h : x ∈ l) : (x : Int) ≤ mx l := by
  cases l with
  | nil => cases h
  | cons y l =>
    obtain ⟨h1, h2, _⟩ := foldl_max_le (l.map fun (x : Nat) => (x : Int)) (y : Int)
    rcases List.mem_cons.mp h with rfl | h
    · exact h1
    · exact h2 _ (List.mem_map.mpr ⟨x, h, rfl⟩)
theorem mx_mem {l : List Nat} (h : l ≠ []) : ∃ x ∈ l, mx l = (x : Int) := by
  cases l with
  | nil => exact absurd rfl h
  | cons y l =>
    obtain ⟨_, _, h3⟩ := foldl_max_le (l.map fun (x : Nat) => (x : Int)) (y : Int)
    rcases h3 with h3 | h3
    · exact ⟨y, List.mem_cons_self, h3⟩
    · obtain ⟨x, hx, e⟩ := List.mem_map.mp h3
      exact ⟨x, List.mem_cons_of_mem _ hx, e.symm⟩
theorem mn_le {l : List Nat} {x : Nat} (h : x ∈ l) : mn l ≤ (x : Int) := by
  cases l with
  | nil => cases h
  | cons y l =>
    obtain ⟨h1, h2, _⟩ := foldl_min_le (l.map fun (x : Nat) => (x : Int)) (y : Int)
    rcases List.mem_cons.mp h with rfl | h
    · exact h1
    · exact h2 _ (List.mem_map.mpr ⟨x, h, rfl⟩)
theorem mn_mem {l : List Nat} (h : l ≠ []) : ∃ x ∈ l, mn l = (x : Int) := by
  cases l with
  | nil => exact absurd rfl h
  | cons y l =>
    obtain ⟨_, _, h3⟩ := foldl_min_le (l.map fun (x : Nat) => (x : Int)) (y : Int)
    rcases h3 with h3 | h3
    · exact ⟨y, List.mem_cons_self, h3⟩
    · obtain ⟨x, hx, e⟩ := List.mem_map.mp h3
      exact ⟨x, List.mem_cons_of_mem _ hx, e.symm⟩
theorem mx_uniq {l : List Nat} {m : Int} (h1 : ∃ x ∈ l, m = (x : Int)) (h2 : ∀ x ∈ l, (x : Int) ≤ m) : mx l = m := by
  obtain ⟨x, hx, e⟩ := h1
  obtain ⟨y, hy, e2⟩ := mx_mem (l := l) (fun z => by rw [z] at hx; cases hx)
  have a := mx_ge hx
  have b := h2 y hy
  omega
theorem mn_uniq {l : List Nat} {m : Int} (h1 : ∃ x ∈ l, m = (x : Int)) (h2 : ∀ x ∈ l, m ≤ (x : Int)) : mn l = m := by
  obtain ⟨x, hx, e⟩ := h1
  obtain ⟨y, hy, e2⟩ := mn_mem (l := l) (fun z => by rw [z] at hx; cases hx)
  have a := mn_le hx
  have b := h2 y hy
  omega
theorem spr_mul (c : Nat) {l : List Nat} (h : l ≠ []) : spr (l.map fun x => c * x) = (c : Int) * spr l := by
  obtain ⟨x, hx, e1⟩ := mx_mem h
  obtain ⟨y, hy, e2⟩ := mn_mem h
  have a : mx (l.map fun x => c * x) = (c : Int) * mx l := mx_uniq ⟨c * x, List.mem_map.mpr ⟨x, hx, rfl⟩, by rw [e1, Int.natCast_mul]⟩ fun z hz => by
    obtain ⟨u, hu, rfl⟩ := List.mem_map.mp hz
    rw [Int.natCast_mul]
    exact Int.mul_le_mul_of_nonneg_left (mx_ge hu) (Int.natCast_nonneg c)
  have b : mn (l.map fun x => c * x) = (c : Int) * mn l := mn_uniq ⟨c * y, List.mem_map.mpr ⟨y, hy, rfl⟩, by rw [e2, Int.natCast_mul]⟩ fun z hz => by
    obtain ⟨u, hu, rfl⟩ := List.mem_map.mp hz
    rw [Int.natCast_mul]
    exact Int.mul_le_mul_of_nonneg_left (mn_le hu) (Int.natCast_nonneg c)
  unfold spr
  rw [a, b, Int.mul_sub]
theorem spr_add (c : Nat) {l : List Nat} (h : l ≠ []) : spr (l.map fun x => c + x) = spr l := by
  obtain ⟨x, hx, e1⟩ := mx_mem h
  obtain ⟨y, hy, e2⟩ := mn_mem h
  have a : mx (l.map fun x => c + x) = (c : Int) + mx l := mx_uniq ⟨c + x, List.mem_map.mpr ⟨x, hx, rfl⟩, by rw [e1, Int.natCast_add]⟩ fun z hz => by
    obtain ⟨u, hu, rfl⟩ := List.mem_map.mp hz
    have := mx_ge hu
    rw [Int.natCast_add]
    omega
  have b : mn (l.map fun x => c + x) = (c : Int) + mn l := mn_uniq ⟨c + y, List.mem_map.mpr ⟨y, hy, rfl⟩, by rw [e2, Int.natCast_add]⟩ fun z hz => by
    obtain ⟨u, hu, rfl⟩ := List.mem_map.mp hz
    have := mn_le hu
    rw [Int.natCast_add]
    omega
  unfold spr
  rw [a, b]
  omega
theorem spr_zero {l : List Nat} (h : l ≠ []) : spr l = 0 ↔ ∃ c, ∀ x ∈ l, x = c := by
  obtain ⟨x, hx, e1⟩ := mx_mem h
  constructor
  · intro e
    refine ⟨x, fun y hy => ?_⟩
    have a := mx_ge hy
    have b := mn_le hy
    unfold spr at e
    omega
  · rintro ⟨c, hc⟩
    have a : mx l = (c : Int) := mx_uniq ⟨x, hx, by rw [hc x hx]⟩ fun y hy => by rw [hc y hy]; exact Int.le_refl _
    have b : mn l = (c : Int) := mn_uniq ⟨x, hx, by rw [hc x hx]⟩ fun y hy => by rw [hc y hy]; exact Int.le_refl _
    unfold spr
    omega
theorem W_turns {n : Nat} (hn : Sz n) {ps : List (List Nat)} (h : isPr n ps) (rs : List Nat) (m : Nat) : W n ps rs (m * T n ps) = (W n ps rs (T n ps)).map fun x => m * x := by
  unfold W
  rw [List.map_map]
  refine List.map_congr_left fun t _ => ?_
  have := w_turns hn h rs t 0 m
  rw [Nat.zero_add] at this
  rw [this]
  rfl
/-- if a full turn wears equally, the spread comes again after it -/
theorem gap_turn {n : Nat} (hn : Sz n) {ps : List (List Nat)} (h : isPr n ps) {rs : List Nat} (hs : stays n ps rs = true) (k : Nat) : spr (W n ps rs (k + T n ps)) = spr (W n ps rs k) := by
  obtain ⟨c, hc⟩ := (spr_zero (W_ne hn ps rs _)).mp (of_decide_eq_true hs)
  have e : W n ps rs (k + T n ps) = (W n ps rs k).map fun x => c + x := by
    unfold W
    rw [List.map_map]
    refine List.map_congr_left fun t ht => ?_
    rw [w_turn hn h]
    have : w n ps rs t (T n ps) = c := hc _ (List.mem_map.mpr ⟨t, ht, rfl⟩)
    rw [this]
    rfl
  rw [e, spr_add c (W_ne hn ps rs k)]
theorem gap_mod {n : Nat} (hn : Sz n) {ps : List (List Nat)} (h : isPr n ps) {rs : List Nat} (hs : stays n ps rs = true) (k : Nat) : spr (W n ps rs (k % T n ps)) = spr (W n ps rs k) := by
  have : ∀ m, spr (W n ps rs (k % T n ps + m * T n ps)) = spr (W n ps rs (k % T n ps)) := by
    intro m
    induction m with
    | zero => rw [Nat.zero_mul, Nat.add_zero]
    | succ m ih =>
      have e : k % T n ps + (m + 1) * T n ps = (k % T n ps + m * T n ps) + T n ps := by rw [Nat.add_mul, Nat.one_mul, Nat.add_assoc]
      rw [e, gap_turn hn h hs, ih]
  have e : k % T n ps + k / T n ps * T n ps = k := by rw [Nat.mul_comm]; exact Nat.mod_add_div k _
  rw [← this (k / T n ps), e]
theorem mxI_ge {l : List Int} {x : Int} (h : x ∈ l) : x ≤ mxI l := by
  cases l with
  | nil => cases h
  | cons y l =>
    obtain ⟨h1, h2, _⟩ := foldl_max_le l y
    rcases List.mem_cons.mp h with rfl | h
    · exact h1
    · exact h2 _ h
theorem mxI_mem {l : List Int} (h : l ≠ []) : mxI l ∈ l := by
  cases l with
  | nil => exact absurd rfl h
  | cons y l =>
    obtain ⟨_, _, h3⟩ := foldl_max_le l y
    rcases h3 with h3 | h3
    · exact List.mem_cons.mpr (.inl h3)
    · exact List.mem_cons_of_mem _ h3
theorem mxI_same {a b : List Int} (ha : a ≠ []) (hb : b ≠ []) (h1 : ∀ x ∈ a, x ∈ b) (h2 : ∀ x ∈ b, x ∈ a) : mxI a = mxI b :=
  Int.le_antisymm (mxI_ge (h1 _ (mxI_mem ha))) (mxI_ge (h2 _ (mxI_mem hb)))
theorem gaps_ne (n : Nat) (ps : List (List Nat)) (rs : List Nat) (m : Nat) : gaps n ps rs (m + 1) ≠ [] := by
  intro z
  have := congrArg List.length z
  unfold gaps at this
  rw [List.length_map, List.length_range] at this
  cases this
theorem gaps_same {n : Nat} (hn : Sz n) {ps : List (List Nat)} (h : isPr n ps) {rs : List Nat} (hs : stays n ps rs = true) {m : Nat} (hm : T n ps ≤ m) : mxI (gaps n ps rs (T n ps + 1)) = mxI (gaps n ps rs (m + 1)) := by
  refine mxI_same (gaps_ne _ _ _ _) (gaps_ne _ _ _ _) (fun x hx => ?_) (fun x hx => ?_)
  · obtain ⟨k, hk, rfl⟩ := List.mem_map.mp hx
    have := List.mem_range.mp hk
    exact List.mem_map.mpr ⟨k, List.mem_range.mpr (by omega), rfl⟩
  · obtain ⟨k, hk, rfl⟩ := List.mem_map.mp hx
    have := Nat.mod_lt k (T_pos hn h)
    exact List.mem_map.mpr ⟨k % T n ps, List.mem_range.mpr (by omega), gap_mod hn h hs k⟩
end DL

namespace DL
open PySem PySem.Spec L2
theorem eIxL_ok {g : DE → Option (List D)} {h : DE → Option D} {ρ : DE} {xs : List D} {i : Nat} {d : D} (h1 : g ρ = some xs) (h2 : h ρ = some (.int (i : Int))) (h3 : xs[i]? = some d) : eIxL g h ρ = some d := by
  rw [v_ixL, h1, bS, h2]
  exact atI_ok h3
theorem lrates_ok (ns : List Int) (hl : ns.length ≤ 63) (k n : Nat) (hk : k < 80000) (hn : n ≤ 5) : ∃ rs : List Nat, isRt n rs ∧ m__law_rates [script ns, .int (k : Int), .int (n : Int)] = some (pat rs) := by
  unfold m__law_rates
  rw [run_eq]
  show ∃ rs : List Nat, isRt n rs ∧ outO (b__law_rates [.dat (script ns), .dat (.int (k : Int)), .dat (.int (n : Int)), .bot]) = some (pat rs)
  unfold b__law_rates
  obtain ⟨rs, p1, p2, p3⟩ := lc_rg_ex (vs := [3]) (j := 3) (n := n) (g := eVar 2) (ρ := [.dat (script ns), .dat (.int (k : Int)), .dat (.int (n : Int)), .bot])
    (el := eIxL (eLst (eCons (eC (.int 1)) (eCons (eC (.int 2)) (eCons (eC (.int 3)) (eCons (eCall m__law_drawn (eCons (eVar 0) (eCons (e2 dAdd (eVar 1) (eVar 3)) (eCons (eC (.int 21)) eNil)))) eNil))))) (eCall m__law_drawn (eCons (eVar 0) (eCons (e2 dAdd (e2 dAdd (eVar 1) (eC (.int 5))) (eVar 3)) (eCons (eC (.int 4)) eNil)))))
    (by omega) (by simp only [v_var, v_own, v_varOf, v_ownOf, v_c, v_1, v_2, v_nil, v_cons, v_call, v_tup, v_lst, v_toL, v_ofL, v_toB, v_ofB, v_not, v_and, v_or, v_if, v_chain, v_ixL, v_part, v_tupL, v_l2, v_yes, v_mNil, v_mDat, v_mOwn, v_divmod, v_asL, v_asT, v_asB, v_asI, v_add, v_sub, v_neg, v_lt, v_le, v_gt, v_ge, v_isB, v_notB, v_isN, v_notN, v_isNi, v_isNn, bS, lineOk0, dIx_l, dIx_t, cLen_l, cLen_t, asSeq_l, asSeq_t, wipeD, setM, List.getElem?_cons_zero, List.getElem?_cons_succ, List.set_cons_zero, List.set_cons_succ, if_true, if_false, ite_true, ite_false, Bool.false_eq_true, Bool.not_true, Bool.not_false]) (fun x : Nat => x ≤ 20) (fun x => PyData.int (x : Int)) fun i hi => by
      obtain ⟨r, hr, h2⟩ := drawn_ok ns hl (k + i) 21 (by omega) (by omega)
      obtain ⟨q, hq, h3⟩ := drawn_ok ns hl (k + 5 + i) 4 (by omega) (by omega)
      have h2' : m__law_drawn [script ns, .int ((k + i : Nat) : Int), .int 21] = some (.int (r : Int)) := h2
      have h3' : m__law_drawn [script ns, .int ((k + 5 + i : Nat) : Int), .int 4] = some (.int (q : Int)) := h3
      have ak := addN k i
      have ak5 : dAdd (.int (k : Int)) (.int 5) = some (.int ((k + 5 : Nat) : Int)) := addN k 5
      have ak6 := addN (k + 5) i
      refine ⟨[1, 2, 3, r].getD q 0, eIxL_ok (xs := nums [1, 2, 3, r]) (i := q) ?_ ?_ ?_, ?_⟩
      · simp only [v_var, v_own, v_varOf, v_ownOf, v_c, v_1, v_2, v_nil, v_cons, v_call, v_tup, v_lst, v_toL, v_ofL, v_toB, v_ofB, v_not, v_and, v_or, v_if, v_chain, v_ixL, v_part, v_tupL, v_l2, v_yes, v_mNil, v_mDat, v_mOwn, v_divmod, v_asL, v_asT, v_asB, v_asI, v_add, v_sub, v_neg, v_lt, v_le, v_gt, v_ge, v_isB, v_notB, v_isN, v_notN, v_isNi, v_isNn, bS, lineOk0, dIx_l, dIx_t, cLen_l, cLen_t, asSeq_l, asSeq_t, wipeD, setM, List.getElem?_cons_zero, List.getElem?_cons_succ, List.set_cons_zero, List.set_cons_succ, if_true, if_false, ite_true, ite_false, Bool.false_eq_true, Bool.not_true, Bool.not_false, ak, h2', - v_add, wipeD, List.set_cons_zero, List.set_cons_succ]
        exact lineOk_ok (by show 4 ≤ _; omega)
      · simp only [v_var, v_own, v_varOf, v_ownOf, v_c, v_1, v_2, v_nil, v_cons, v_call, v_tup, v_lst, v_toL, v_ofL, v_toB, v_ofB, v_not, v_and, v_or, v_if, v_chain, v_ixL, v_part, v_tupL, v_l2, v_yes, v_mNil, v_mDat, v_mOwn, v_divmod, v_asL, v_asT, v_asB, v_asI, v_add, v_sub, v_neg, v_lt, v_le, v_gt, v_ge, v_isB, v_notB, v_isN, v_notN, v_isNi, v_isNn, bS, lineOk0, dIx_l, dIx_t, cLen_l, cLen_t, asSeq_l, asSeq_t, wipeD, setM, List.getElem?_cons_zero, List.getElem?_cons_succ, List.set_cons_zero, List.set_cons_succ, if_true, if_false, ite_true, ite_false, Bool.false_eq_true, Bool.not_true, Bool.not_false, ak5, ak6, h3', - v_add, wipeD, List.set_cons_zero, List.set_cons_succ]
      · rw [nums_get, getD_get (by show q < 4; exact hq)]; rfl
      · have : q = 0 ∨ q = 1 ∨ q = 2 ∨ q = 3 := by omega
        rcases this with rfl | rfl | rfl | rfl
        · show 1 ≤ 20; omega
        · show 2 ≤ 20; omega
        · show 3 ≤ 20; omega
        · show r ≤ 20; omega
  refine ⟨rs, ⟨p1, p2⟩, ?_⟩
  rw [sRet_ok (d := pat rs) (by rw [v_tupL, p3, bS]; rfl)]
  rfl
end DL

namespace DL
open PySem PySem.Spec L2
/-! ### equal wear -/
theorem eqv_int (i j : Int) : PyData.eqv (.int i) (.int j) = decide (i = j) := by
  simp only [PyData.eqv]
  rw [Bool.beq_eq_decide_eq]
theorem flat_nums (p : List Nat) : (nums p).all flatD = true := by
  refine List.all_eq_true.mpr fun d hd => ?_
  obtain ⟨i, _, rfl⟩ := mem_nums hd
  rfl
/-- where a number stands in a list -/
theorem index_ok {p : List Nat} {v : Nat} (hv : v ∈ p) : ∃ j, j < p.length ∧ dIndex (.list (nums p)) (.int (v : Int)) = some (.int ((j : Nat) : Int)) ∧ p.getD j 0 = v := by
  have hx : ∃ j, (nums p).findIdx? (fun z => PyData.eqv z (.int (v : Int))) = some j := by
    cases e : (nums p).findIdx? (fun z => PyData.eqv z (.int (v : Int))) with
    | some j => exact ⟨j, rfl⟩
    | none =>
      have := List.findIdx?_eq_none_iff.mp e (.int (v : Int)) (List.mem_map.mpr ⟨v, hv, rfl⟩)
      rw [eqv_int, decide_eq_true rfl] at this
      cases this
  obtain ⟨j, hj⟩ := hx
  obtain ⟨h1, h2, _⟩ := List.findIdx?_eq_some_iff_getElem.mp hj
  have h1' : j < p.length := by rw [nums_length] at h1; exact h1
  refine ⟨j, h1', ?_, ?_⟩
  · unfold dIndex asFlat
    rw [asSeq_l, bS, if_pos (flat_nums p), bS, if_pos (show flatD (.int (v : Int)) = true from rfl), hj, bS]
  · have e : (nums p)[j]? = some (.int ((p.getD j 0 : Nat) : Int)) := getR p j h1'
    rw [List.getElem?_eq_getElem h1] at e
    rw [Option.some.inj e, eqv_int] at h2
    have := of_decide_eq_true h2
    omega
/-- m full turns and a part of one -/
def mix (n : Nat) (A B : List Nat) (m : Nat) : List Nat := (List.range n).map fun t => m * A.getD t 0 + B.getD t 0
theorem mix_ne {n : Nat} (hn : 0 < n) (A B : List Nat) (m : Nat) : mix n A B m ≠ [] := by
  intro z
  have := congrArg List.length z
  unfold mix at this
  rw [List.length_map, List.length_range] at this
  simp at this
  omega
theorem mix_eq {n : Nat} {A B : List Nat} {m : Nat} (hn : 0 < n) (h : spr (mix n A B m) = 0) {s t : Nat} (hs : s < n) (ht : t < n) : m * A.getD s 0 + B.getD s 0 = m * A.getD t 0 + B.getD t 0 := by
  obtain ⟨c, hc⟩ := (spr_zero (mix_ne hn A B m)).mp h
  have h1 := hc (m * A.getD s 0 + B.getD s 0) (List.mem_map.mpr ⟨s, List.mem_range.mpr hs, rfl⟩)
  have h2 := hc (m * A.getD t 0 + B.getD t 0) (List.mem_map.mpr ⟨t, List.mem_range.mpr ht, rfl⟩)
  rw [h1, h2]
def optN (o : Option Nat) : D := match o with
  | some k => .int ((k : Nat) : Int)
  | none => .none
theorem cDivmod_int (i j : Int) (h1 : 0 < j) (h2 : j < 1073741824) : cDivmod [.int i, .int j] = some (.tuple [.int (i / j), .int (i % j)]) := (cDivmod_of i j).trans (if_pos ⟨h1, h2⟩)
theorem turns_for_ok {n : Nat} (hn : 0 < n) (hn5 : n ≤ 5) {A B : List Nat} (hA : A.length = n) (hB : B.length = n) (hbA : ∀ x ∈ A, x ≤ 1000000) {β : Nat} (hβ : β ≤ 1000000) (hbB : ∀ x ∈ B, x ≤ β) (hne : spr A ≠ 0) :
    ∃ o : Option Nat, m_turns_for [.list (nums A), .list (nums B)] = some (optN o) ∧ (∀ m, o = some m ↔ spr (mix n A B m) = 0) ∧ (∀ m, o = some m → m ≤ β) := by
  have hA0 : A ≠ [] := fun z => by rw [z] at hA; simp at hA; omega
  obtain ⟨x, hx, ex⟩ := mx_mem hA0
  obtain ⟨y, hy, ey⟩ := mn_mem hA0
  obtain ⟨a, ha, ia, ga⟩ := index_ok hx
  obtain ⟨b, hb, ib, gb⟩ := index_ok hy
  rw [hA] at ha hb
  have hlt : y < x := by
    have h1 := mx_ge hy
    unfold spr at hne
    omega
  have bx := hbA x hx
  have hBa := get_le hbB a
  have hBb := get_le hbB b
  unfold m_turns_for
  rw [run_eq]
  show ∃ o : Option Nat, outO (b_turns_for [.dat (.list (nums A)), .dat (.list (nums B)), .bot, .bot, .bot, .bot, .bot, .bot]) = some (optN o) ∧ _
  unfold b_turns_for
  rw [sSeq_nx (sSet_ok (d := .int (a : Int)) (by simp only [v_var, v_own, v_varOf, v_ownOf, v_c, v_1, v_2, v_nil, v_cons, v_call, v_tup, v_lst, v_toL, v_ofL, v_toB, v_ofB, v_not, v_and, v_or, v_if, v_chain, v_ixL, v_part, v_tupL, v_l2, v_yes, v_mNil, v_mDat, v_mOwn, v_divmod, v_asL, v_asT, v_asB, v_asI, v_add, v_sub, v_neg, v_lt, v_le, v_gt, v_ge, v_isB, v_notB, v_isN, v_notN, v_isNi, v_isNn, bS, lineOk0, dIx_l, dIx_t, cLen_l, cLen_t, asSeq_l, asSeq_t, wipeD, setM, List.getElem?_cons_zero, List.getElem?_cons_succ, List.set_cons_zero, List.set_cons_succ, if_true, if_false, ite_true, ite_false, Bool.false_eq_true, Bool.not_true, Bool.not_false, cMax_nums hA0, ex, ia]))]
  simp only [setM, List.set_cons_succ, List.set_cons_zero]
  rw [sSeq_nx (sSet_ok (d := .int (b : Int)) (by simp only [v_var, v_own, v_varOf, v_ownOf, v_c, v_1, v_2, v_nil, v_cons, v_call, v_tup, v_lst, v_toL, v_ofL, v_toB, v_ofB, v_not, v_and, v_or, v_if, v_chain, v_ixL, v_part, v_tupL, v_l2, v_yes, v_mNil, v_mDat, v_mOwn, v_divmod, v_asL, v_asT, v_asB, v_asI, v_add, v_sub, v_neg, v_lt, v_le, v_gt, v_ge, v_isB, v_notB, v_isN, v_notN, v_isNi, v_isNn, bS, lineOk0, dIx_l, dIx_t, cLen_l, cLen_t, asSeq_l, asSeq_t, wipeD, setM, List.getElem?_cons_zero, List.getElem?_cons_succ, List.set_cons_zero, List.set_cons_succ, if_true, if_false, ite_true, ite_false, Bool.false_eq_true, Bool.not_true, Bool.not_false, cMin_nums hA0, ey, ib]))]
  simp only [setM, List.set_cons_succ, List.set_cons_zero]
  have dv := cDivmod_int (((B.getD b 0 : Nat) : Int) - ((B.getD a 0 : Nat) : Int)) ((x : Int) - (y : Int)) (by omega) (by omega)
  rw [sSeq_nx (sAsg_ok (d := .tuple [.int ((((B.getD b 0 : Nat) : Int) - ((B.getD a 0 : Nat) : Int)) / ((x : Int) - (y : Int))), .int ((((B.getD b 0 : Nat) : Int) - ((B.getD a 0 : Nat) : Int)) % ((x : Int) - (y : Int)))])
    (ρ' := [.dat (.list (nums A)), .dat (.list (nums B)), .dat (.int (a : Int)), .dat (.int (b : Int)), .dat (.int ((((B.getD b 0 : Nat) : Int) - ((B.getD a 0 : Nat) : Int)) / ((x : Int) - (y : Int)))), .dat (.int ((((B.getD b 0 : Nat) : Int) - ((B.getD a 0 : Nat) : Int)) % ((x : Int) - (y : Int)))), .bot, .bot]) (by
    simp only [v_var, v_own, v_varOf, v_ownOf, v_c, v_1, v_2, v_nil, v_cons, v_call, v_tup, v_lst, v_toL, v_ofL, v_toB, v_ofB, v_not, v_and, v_or, v_if, v_chain, v_ixL, v_part, v_tupL, v_l2, v_yes, v_mNil, v_mDat, v_mOwn, v_divmod, v_asL, v_asT, v_asB, v_asI, v_add, v_sub, v_neg, v_lt, v_le, v_gt, v_ge, v_isB, v_notB, v_isN, v_notN, v_isNi, v_isNn, bS, lineOk0, dIx_l, dIx_t, cLen_l, cLen_t, asSeq_l, asSeq_t, wipeD, setM, List.getElem?_cons_zero, List.getElem?_cons_succ, List.set_cons_zero, List.set_cons_succ, if_true, if_false, ite_true, ite_false, Bool.false_eq_true, Bool.not_true, Bool.not_false, atI_nums (p := A) (i := a) (by omega), atI_nums (p := A) (i := b) (by omega), atI_nums (p := B) (i := a) (by omega), atI_nums (p := B) (i := b) (by omega), ga, gb]
    exact dv) rfl)]
  generalize hq : (((B.getD b 0 : Nat) : Int) - ((B.getD a 0 : Nat) : Int)) / ((x : Int) - (y : Int)) = q
  generalize hr : (((B.getD b 0 : Nat) : Int) - ((B.getD a 0 : Nat) : Int)) % ((x : Int) - (y : Int)) = r
  have hqr : ((x : Int) - (y : Int)) * q + r = ((B.getD b 0 : Nat) : Int) - ((B.getD a 0 : Nat) : Int) := by rw [← hq, ← hr]; exact Int.mul_ediv_add_emod _ _
  have hr0 : 0 ≤ r := by rw [← hr]; exact Int.emod_nonneg _ (by omega)
  have hr1 : r < (x : Int) - (y : Int) := by rw [← hr]; exact Int.emod_lt_of_pos _ (by omega)
  /- any number that does it is q -/
  have uniq : ∀ m : Nat, spr (mix n A B m) = 0 → q = (m : Int) ∧ r = 0 := fun m hm => by
    have e := mix_eq hn hm ha hb
    rw [ga, gb] at e
    have e2 : (m : Int) * (x : Int) + ((B.getD a 0 : Nat) : Int) = (m : Int) * (y : Int) + ((B.getD b 0 : Nat) : Int) := by
      have := congrArg (fun z : Nat => (z : Int)) e
      simpa using this
    have e3 : ((x : Int) - (y : Int)) * (m : Int) = ((B.getD b 0 : Nat) : Int) - ((B.getD a 0 : Nat) : Int) := by
      rw [Int.sub_mul, Int.mul_comm (x : Int), Int.mul_comm (y : Int)]
      omega
    have hd : ((x : Int) - (y : Int)) ≠ 0 := by omega
    have q1 : q = (m : Int) := by rw [← hq, ← e3]; exact Int.mul_ediv_cancel_left _ hd
    have r1 : r = 0 := by rw [← hr, ← e3]; exact Int.mul_emod_right _ _
    exact ⟨q1, r1⟩
  by_cases hbad : r = 0 ∧ 0 ≤ q
  · obtain ⟨r0, q0⟩ := hbad
    obtain ⟨m, rfl⟩ : ∃ m : Nat, q = (m : Int) := ⟨q.toNat, (Int.toNat_of_nonneg q0).symm⟩
    subst r0
    have hmb : m ≤ β := by
      have h1 : (1 : Int) * (m : Int) ≤ ((x : Int) - (y : Int)) * (m : Int) := Int.mul_le_mul_of_nonneg_right (by omega) (by omega)
      omega
    have hnl : ¬ ((m : Int) < 0) := by omega
    rw [sSeq_nx (sIfN_f (by simp only [v_var, v_own, v_varOf, v_ownOf, v_c, v_1, v_2, v_nil, v_cons, v_call, v_tup, v_lst, v_toL, v_ofL, v_toB, v_ofB, v_not, v_and, v_or, v_if, v_chain, v_ixL, v_part, v_tupL, v_l2, v_yes, v_mNil, v_mDat, v_mOwn, v_divmod, v_asL, v_asT, v_asB, v_asI, v_add, v_sub, v_neg, v_lt, v_le, v_gt, v_ge, v_isB, v_notB, v_isN, v_notN, v_isNi, v_isNn, bS, lineOk0, dIx_l, dIx_t, cLen_l, cLen_t, asSeq_l, asSeq_t, wipeD, setM, List.getElem?_cons_zero, List.getElem?_cons_succ, List.set_cons_zero, List.set_cons_succ, if_true, if_false, ite_true, ite_false, Bool.false_eq_true, Bool.not_true, Bool.not_false, dNe_int, decide_true, hnl, decide_false]))]
    have hl : eLc [6, 7] (e2 dZip (eVar 0) (eVar 1)) (hTup (hsCons (hName 6) (hsCons (hName 7) hsNil))) eYes (e2 dAdd (e2 dMul (eVar 4) (eVar 6)) (eVar 7)) [.dat (.list (nums A)), .dat (.list (nums B)), .dat (.int (a : Int)), .dat (.int (b : Int)), .dat (.int (m : Int)), .dat (.int 0), .bot, .bot] = some (nums (mix n A B m)) := by
      rw [lc_zip (n := n) (p := A) (q := B) (by omega) hA hB (by simp only [v_var, v_own, v_varOf, v_ownOf, v_c, v_1, v_2, v_nil, v_cons, v_call, v_tup, v_lst, v_toL, v_ofL, v_toB, v_ofB, v_not, v_and, v_or, v_if, v_chain, v_ixL, v_part, v_tupL, v_l2, v_yes, v_mNil, v_mDat, v_mOwn, v_divmod, v_asL, v_asT, v_asB, v_asI, v_add, v_sub, v_neg, v_lt, v_le, v_gt, v_ge, v_isB, v_notB, v_isN, v_notN, v_isNi, v_isNn, bS, lineOk0, dIx_l, dIx_t, cLen_l, cLen_t, asSeq_l, asSeq_t, wipeD, setM, List.getElem?_cons_zero, List.getElem?_cons_succ, List.set_cons_zero, List.set_cons_succ, if_true, if_false, ite_true, ite_false, Bool.false_eq_true, Bool.not_true, Bool.not_false, dZip_l]) (fun t => .int ((m * A.getD t 0 + B.getD t 0 : Nat) : Int)) (fun t ht => by
        simp only [v_var, v_own, v_varOf, v_ownOf, v_c, v_1, v_2, v_nil, v_cons, v_call, v_tup, v_lst, v_toL, v_ofL, v_toB, v_ofB, v_not, v_and, v_or, v_if, v_chain, v_ixL, v_part, v_tupL, v_l2, v_yes, v_mNil, v_mDat, v_mOwn, v_divmod, v_asL, v_asT, v_asB, v_asI, v_add, v_sub, v_neg, v_lt, v_le, v_gt, v_ge, v_isB, v_notB, v_isN, v_notN, v_isNi, v_isNn, bS, lineOk0, dIx_l, dIx_t, cLen_l, cLen_t, asSeq_l, asSeq_t, wipeD, setM, List.getElem?_cons_zero, List.getElem?_cons_succ, List.set_cons_zero, List.set_cons_succ, if_true, if_false, ite_true, ite_false, Bool.false_eq_true, Bool.not_true, Bool.not_false, mulN m (A.getD t 0) (by omega), addN, - v_add])]
      unfold mix
      rw [nums_mapN]
    by_cases hz : spr (mix n A B m) = 0
    · refine ⟨some m, ?_, fun m' => ⟨fun e => (by cases e; exact hz), fun e => ?_⟩, fun m' e => (by cases e; exact hmb)⟩
      · rw [sRet_ok (d := .int (m : Int)) (by
          rw [v_if, v_2, v_call, v_cons, v_ofL, hl]
          simp only [v_var, v_own, v_varOf, v_ownOf, v_c, v_1, v_2, v_nil, v_cons, v_call, v_tup, v_lst, v_toL, v_ofL, v_toB, v_ofB, v_not, v_and, v_or, v_if, v_chain, v_ixL, v_part, v_tupL, v_l2, v_yes, v_mNil, v_mDat, v_mOwn, v_divmod, v_asL, v_asT, v_asB, v_asI, v_add, v_sub, v_neg, v_lt, v_le, v_gt, v_ge, v_isB, v_notB, v_isN, v_notN, v_isNi, v_isNn, bS, lineOk0, dIx_l, dIx_t, cLen_l, cLen_t, asSeq_l, asSeq_t, wipeD, setM, List.getElem?_cons_zero, List.getElem?_cons_succ, List.set_cons_zero, List.set_cons_succ, if_true, if_false, ite_true, ite_false, Bool.false_eq_true, Bool.not_true, Bool.not_false, spread_ok (mix_ne hn A B m), hz, dEq_int, decide_true])]
        rfl
      · have := (uniq m' e).1
        rw [show m = m' by omega]
    · refine ⟨none, ?_, fun m' => ⟨fun e => (by cases e), fun e => ?_⟩, fun m' e => (by cases e)⟩
      · rw [sRet_ok (d := .none) (by
          rw [v_if, v_2, v_call, v_cons, v_ofL, hl]
          simp only [v_var, v_own, v_varOf, v_ownOf, v_c, v_1, v_2, v_nil, v_cons, v_call, v_tup, v_lst, v_toL, v_ofL, v_toB, v_ofB, v_not, v_and, v_or, v_if, v_chain, v_ixL, v_part, v_tupL, v_l2, v_yes, v_mNil, v_mDat, v_mOwn, v_divmod, v_asL, v_asT, v_asB, v_asI, v_add, v_sub, v_neg, v_lt, v_le, v_gt, v_ge, v_isB, v_notB, v_isN, v_notN, v_isNi, v_isNn, bS, lineOk0, dIx_l, dIx_t, cLen_l, cLen_t, asSeq_l, asSeq_t, wipeD, setM, List.getElem?_cons_zero, List.getElem?_cons_succ, List.set_cons_zero, List.set_cons_succ, if_true, if_false, ite_true, ite_false, Bool.false_eq_true, Bool.not_true, Bool.not_false, spread_ok (mix_ne hn A B m), hz, dEq_int, decide_false])]
        rfl
      · have := (uniq m' e).1
        rw [show m' = m by omega] at e
        exact absurd e hz
  · refine ⟨none, ?_, fun m => ⟨fun e => (by cases e), fun e => ?_⟩, fun m e => (by cases e)⟩
    · have hc : (eOr (e2 dNe (eVar 5) (eC (.int 0))) (e2 dLt (eVar 4) (eC (.int 0)))) [.dat (.list (nums A)), .dat (.list (nums B)), .dat (.int (a : Int)), .dat (.int (b : Int)), .dat (.int q), .dat (.int r), .bot, .bot] = some true := by
        by_cases h0 : r = 0
        · have hq0 : q < 0 := by omega
          simp only [v_var, v_own, v_varOf, v_ownOf, v_c, v_1, v_2, v_nil, v_cons, v_call, v_tup, v_lst, v_toL, v_ofL, v_toB, v_ofB, v_not, v_and, v_or, v_if, v_chain, v_ixL, v_part, v_tupL, v_l2, v_yes, v_mNil, v_mDat, v_mOwn, v_divmod, v_asL, v_asT, v_asB, v_asI, v_add, v_sub, v_neg, v_lt, v_le, v_gt, v_ge, v_isB, v_notB, v_isN, v_notN, v_isNi, v_isNn, bS, lineOk0, dIx_l, dIx_t, cLen_l, cLen_t, asSeq_l, asSeq_t, wipeD, setM, List.getElem?_cons_zero, List.getElem?_cons_succ, List.set_cons_zero, List.set_cons_succ, if_true, if_false, ite_true, ite_false, Bool.false_eq_true, Bool.not_true, Bool.not_false, dNe_int, h0, decide_true, hq0]
        · simp only [v_var, v_own, v_varOf, v_ownOf, v_c, v_1, v_2, v_nil, v_cons, v_call, v_tup, v_lst, v_toL, v_ofL, v_toB, v_ofB, v_not, v_and, v_or, v_if, v_chain, v_ixL, v_part, v_tupL, v_l2, v_yes, v_mNil, v_mDat, v_mOwn, v_divmod, v_asL, v_asT, v_asB, v_asI, v_add, v_sub, v_neg, v_lt, v_le, v_gt, v_ge, v_isB, v_notB, v_isN, v_notN, v_isNi, v_isNn, bS, lineOk0, dIx_l, dIx_t, cLen_l, cLen_t, asSeq_l, asSeq_t, wipeD, setM, List.getElem?_cons_zero, List.getElem?_cons_succ, List.set_cons_zero, List.set_cons_succ, if_true, if_false, ite_true, ite_false, Bool.false_eq_true, Bool.not_true, Bool.not_false, dNe_int, h0, decide_false]
      rw [sSeq_ret ((sIf_t hc).trans (sRet_ok (d := .none) (by simp only [v_var, v_own, v_varOf, v_ownOf, v_c, v_1, v_2, v_nil, v_cons, v_call, v_tup, v_lst, v_toL, v_ofL, v_toB, v_ofB, v_not, v_and, v_or, v_if, v_chain, v_ixL, v_part, v_tupL, v_l2, v_yes, v_mNil, v_mDat, v_mOwn, v_divmod, v_asL, v_asT, v_asB, v_asI, v_add, v_sub, v_neg, v_lt, v_le, v_gt, v_ge, v_isB, v_notB, v_isN, v_notN, v_isNi, v_isNn, bS, lineOk0, dIx_l, dIx_t, cLen_l, cLen_t, asSeq_l, asSeq_t, wipeD, setM, List.getElem?_cons_zero, List.getElem?_cons_succ, List.set_cons_zero, List.set_cons_succ, if_true, if_false, ite_true, ite_false, Bool.false_eq_true, Bool.not_true, Bool.not_false])))]
      rfl
    · have := uniq m e
      omega
end DL

namespace DL
open PySem PySem.Spec L2
/-- all wear is equal after k intervals -/
def Ev (n : Nat) (ps : List (List Nat)) (rs : List Nat) (k : Nat) : Bool := decide (spr (W n ps rs k) = 0)
theorem mix_W {n : Nat} (hn : Sz n) {ps : List (List Nat)} (h : isPr n ps) (rs : List Nat) (r m : Nat) : mix n (W n ps rs (T n ps)) (W n ps rs r) m = W n ps rs (m * T n ps + r) := by
  unfold mix
  have : W n ps rs (m * T n ps + r) = (List.range n).map fun t => w n ps rs t (m * T n ps + r) := rfl
  rw [this]
  refine List.map_congr_left fun t ht => ?_
  have ht := List.mem_range.mp ht
  rw [W_get ps rs _ ht, W_get ps rs _ ht, Nat.add_comm (m * T n ps), w_turns hn h]
theorem W_le {n : Nat} {ps : List (List Nat)} {rs : List Nat} (hr : isRt n rs) (k : Nat) : ∀ x ∈ W n ps rs k, x ≤ 20 * k := fun x hx => by
  obtain ⟨t, _, rfl⟩ := List.mem_map.mp hx
  exact w_le hr t k
theorem nodup_app {l : List Nat} (h : l.Nodup) {x : Nat} (hx : x ∉ l) : (l ++ [x]).Nodup := by
  refine List.nodup_append.mpr ⟨h, List.nodup_cons.mpr ⟨(fun z => by cases z), List.nodup_nil⟩, fun a ha b hb => ?_⟩
  rw [List.mem_singleton.mp hb]
  exact fun e => hx (e ▸ ha)
def bSingle : DS := (sSeq (sSet 6 (eCall m_turns_for (eCons (e2 dIx (eVar 2) (e1 dNeg (eC (.int 1)))) (eCons (e2 dIx (eVar 2) (eVar 5)) eNil))))
  (sIf (eAnd (e2 dNotN (eVar 6) (eC .none)) (e2 dGt (e2 dAdd (e2 dMul (eVar 6) (eVar 4)) (eVar 5)) (eC (.int 0))))
  (sApp 3 (e2 dAdd (e2 dMul (eVar 6) (eVar 4)) (eVar 5)))
  sNext))
theorem divT {T k i : Nat} (hT : 0 < T) (h : k % T = i) : k = k / T * T + i := by
  have := Nat.mod_add_div k T
  rw [Nat.mul_comm] at this
  omega
theorem modT {T m i : Nat} (hi : i < T) : (m * T + i) % T = i := by
  rw [Nat.add_comm, Nat.add_mul_mod_self_right, Nat.mod_eq_of_lt hi]
theorem find_single_ok {n : Nat} (hn : Sz n) {ps : List (List Nat)} (h : isPr n ps) {rs : List Nat} (hr : isRt n rs) (hs : stays n ps rs = false) :
    ∃ S : List Int, m_find_single [prog ps, pat rs] = some (.list (S.map PyData.int)) ∧ S.Pairwise (· ≤ ·) ∧ S.Nodup ∧ (∀ z, z ∈ S ↔ ∃ k : Nat, z = (k : Int) ∧ 1 ≤ k ∧ Ev n ps rs k = true) ∧ (∀ z ∈ S, z ≤ 1000000) ∧ S.length ≤ 24 := by
  have hn5 := hn.le
  have hn3 := hn.ge
  have hT := T_le hn h
  have hT0 := T_pos hn h
  have hne : spr (W n ps rs (T n ps)) ≠ 0 := of_decide_eq_false hs
  unfold m_find_single
  rw [run_eq]
  show ∃ S : List Int, outO (b_find_single [.dat (prog ps), .dat (pat rs), .bot, .bot, .bot, .bot, .bot]) = some (.list (S.map PyData.int)) ∧ _
  unfold b_find_single
  have hs1 : dSub (.int ((T n ps + 1 : Nat) : Int)) (.int 1) = some (.int (T n ps : Nat)) := by
    rw [v_sub]; congr 2; omega
  rw [sSeq_nx (sPar_ok (xs := [.dat (.list (wears n ps rs (T n ps + 1))), .own []]) (by simp only [v_var, v_own, v_varOf, v_ownOf, v_c, v_1, v_2, v_nil, v_cons, v_call, v_tup, v_lst, v_toL, v_ofL, v_toB, v_ofB, v_not, v_and, v_or, v_if, v_chain, v_ixL, v_part, v_tupL, v_l2, v_yes, v_mNil, v_mDat, v_mOwn, v_divmod, v_asL, v_asT, v_asB, v_asI, v_add, v_sub, v_neg, v_lt, v_le, v_gt, v_ge, v_isB, v_notB, v_isN, v_notN, v_isNi, v_isNn, bS, lineOk0, dIx_l, dIx_t, cLen_l, cLen_t, asSeq_l, asSeq_t, wipeD, setM, List.getElem?_cons_zero, List.getElem?_cons_succ, List.set_cons_zero, List.set_cons_succ, if_true, if_false, ite_true, ite_false, Bool.false_eq_true, Bool.not_true, Bool.not_false, sums_ok hn h hr]))]
  simp only [setM, List.set_cons_succ, List.set_cons_zero]
  rw [sSeq_nx (sSet_ok (d := .int (T n ps : Nat)) (by simp only [v_var, v_own, v_varOf, v_ownOf, v_c, v_1, v_2, v_nil, v_cons, v_call, v_tup, v_lst, v_toL, v_ofL, v_toB, v_ofB, v_not, v_and, v_or, v_if, v_chain, v_ixL, v_part, v_tupL, v_l2, v_yes, v_mNil, v_mDat, v_mOwn, v_divmod, v_asL, v_asT, v_asB, v_asI, v_add, v_sub, v_neg, v_lt, v_le, v_gt, v_ge, v_isB, v_notB, v_isN, v_notN, v_isNi, v_isNn, bS, lineOk0, dIx_l, dIx_t, cLen_l, cLen_t, asSeq_l, asSeq_t, wipeD, setM, List.getElem?_cons_zero, List.getElem?_cons_succ, List.set_cons_zero, List.set_cons_succ, if_true, if_false, ite_true, ite_false, Bool.false_eq_true, Bool.not_true, Bool.not_false, wears_len, hs1, - v_sub]))]
  simp only [setM, List.set_cons_succ, List.set_cons_zero]
  obtain ⟨ρ', h2, ⟨F, z5, z6, rfl, hnd, hmem, hle, hbd⟩⟩ := for_inv (h := hName 5) (b := bSingle)
    (fun i ρ => ∃ (F : List Nat) (z5 z6 : DV), ρ = [.dat (prog ps), .dat (pat rs), .dat (.list (wears n ps rs (T n ps + 1))), .own (nums F), .dat (.int (T n ps : Nat)), z5, z6] ∧ F.Nodup ∧ (∀ k, k ∈ F ↔ 1 ≤ k ∧ k % T n ps < i ∧ Ev n ps rs k = true) ∧ F.length ≤ i ∧ ∀ k ∈ F, k ≤ 1000000)
    (ds := nums (List.range (T n ps))) (k := 0) (ρ := [.dat (prog ps), .dat (pat rs), .dat (.list (wears n ps rs (T n ps + 1))), .own [], .dat (.int (T n ps : Nat)), .bot, .bot])
    ⟨[], .bot, .bot, rfl, List.nodup_nil, fun k => ⟨fun z => (by cases z), fun z => (by omega)⟩, Nat.le_refl _, fun k z => (by cases z)⟩
    (fun i d ρ hd ⟨F, z5, z6, e, hnd, hmem, hle, hbd⟩ => by
      subst e
      obtain ⟨hi, rfl⟩ := range_get hd
      rw [Nat.zero_add] at hmem hle ⊢
      obtain ⟨o, ho1, ho2, ho3⟩ := turns_for_ok (n := n) (by omega) hn5 (A := W n ps rs (T n ps)) (B := W n ps rs i) (W_len _ _ _ _) (W_len _ _ _ _) (fun x hx => by have := W_le hr _ x hx; omega) (β := 480) (by omega) (fun x hx => by have := W_le hr _ x hx; omega) hne
      have key : ∀ k, k % T n ps = i → (Ev n ps rs k = true ↔ o = some (k / T n ps)) := fun k hk => by
        rw [ho2, mix_W hn h]
        unfold Ev
        rw [decide_eq_true_iff, ← divT hT0 hk]
      have hset : hName 5 (.int (i : Int)) [.dat (prog ps), .dat (pat rs), .dat (.list (wears n ps rs (T n ps + 1))), .own (nums F), .dat (.int (T n ps : Nat)), z5, z6] = some [.dat (prog ps), .dat (pat rs), .dat (.list (wears n ps rs (T n ps + 1))), .own (nums F), .dat (.int (T n ps : Nat)), .dat (.int (i : Int)), z6] := rfl
      have h6 : ∀ g : DS, sSeq (sSet 6 (eCall m_turns_for (eCons (e2 dIx (eVar 2) (e1 dNeg (eC (.int 1)))) (eCons (e2 dIx (eVar 2) (eVar 5)) eNil)))) g [.dat (prog ps), .dat (pat rs), .dat (.list (wears n ps rs (T n ps + 1))), .own (nums F), .dat (.int (T n ps : Nat)), .dat (.int (i : Int)), z6] = g [.dat (prog ps), .dat (pat rs), .dat (.list (wears n ps rs (T n ps + 1))), .own (nums F), .dat (.int (T n ps : Nat)), .dat (.int (i : Int)), .dat (optN o)] := fun g => by
        rw [sSeq_nx (sSet_ok (d := optN o) (by simp only [v_var, v_own, v_varOf, v_ownOf, v_c, v_1, v_2, v_nil, v_cons, v_call, v_tup, v_lst, v_toL, v_ofL, v_toB, v_ofB, v_not, v_and, v_or, v_if, v_chain, v_ixL, v_part, v_tupL, v_l2, v_yes, v_mNil, v_mDat, v_mOwn, v_divmod, v_asL, v_asT, v_asB, v_asI, v_add, v_sub, v_neg, v_lt, v_le, v_gt, v_ge, v_isB, v_notB, v_isN, v_notN, v_isNi, v_isNn, bS, lineOk0, dIx_l, dIx_t, cLen_l, cLen_t, asSeq_l, asSeq_t, wipeD, setM, List.getElem?_cons_zero, List.getElem?_cons_succ, List.set_cons_zero, List.set_cons_succ, if_true, if_false, ite_true, ite_false, Bool.false_eq_true, Bool.not_true, Bool.not_false, wears_last, wears_get (n := n) (ps := ps) (rs := rs) (m := T n ps + 1) (k := i) (by omega), ho1]))]
        simp only [setM, List.set_cons_succ, List.set_cons_zero]
      cases o with
      | none =>
        refine ⟨_, _, hset, .inl ((h6 _).trans (sIfN_f ?_)), F, _, _, rfl, hnd, fun k => ?_, by omega, hbd⟩
        · show _ = some false
          rw [v_and, v_2, v_var, v_c]
          simp only [List.getElem?_cons_zero, List.getElem?_cons_succ, v_varOf, bS, optN, v_notN, v_isNn, Bool.not_true, Bool.false_eq_true, if_false]
        · rw [hmem]
          constructor
          · exact fun z => ⟨z.1, by omega, z.2.2⟩
          · rintro ⟨z1, z2, z3⟩
            refine ⟨z1, ?_, z3⟩
            by_cases hk : k % T n ps = i
            · have := (key k hk).mp z3
              cases this
            · omega
      | some m =>
        have hm := ho3 m rfl
        have hmT : m * T n ps ≤ 480 * 24 := Nat.mul_le_mul hm hT
        have hmul : dMul (.int (m : Int)) (.int (T n ps : Nat)) = some (.int ((m * T n ps : Nat) : Int)) := mulN m _ (by omega)
        have hsum : (e2 dAdd (e2 dMul (eVar 6) (eVar 4)) (eVar 5)) [.dat (prog ps), .dat (pat rs), .dat (.list (wears n ps rs (T n ps + 1))), .own (nums F), .dat (.int (T n ps : Nat)), .dat (.int (i : Int)), .dat (optN (some m))] = some (.int ((m * T n ps + i : Nat) : Int)) := by
          show (e2 dAdd (e2 dMul (eVar 6) (eVar 4)) (eVar 5)) [.dat (prog ps), .dat (pat rs), .dat (.list (wears n ps rs (T n ps + 1))), .own (nums F), .dat (.int (T n ps : Nat)), .dat (.int (i : Int)), .dat (.int (m : Int))] = _
          simp only [v_var, v_own, v_varOf, v_ownOf, v_c, v_1, v_2, v_nil, v_cons, v_call, v_tup, v_lst, v_toL, v_ofL, v_toB, v_ofB, v_not, v_and, v_or, v_if, v_chain, v_ixL, v_part, v_tupL, v_l2, v_yes, v_mNil, v_mDat, v_mOwn, v_divmod, v_asL, v_asT, v_asB, v_asI, v_add, v_sub, v_neg, v_lt, v_le, v_gt, v_ge, v_isB, v_notB, v_isN, v_notN, v_isNi, v_isNn, bS, lineOk0, dIx_l, dIx_t, cLen_l, cLen_t, asSeq_l, asSeq_t, wipeD, setM, List.getElem?_cons_zero, List.getElem?_cons_succ, List.set_cons_zero, List.set_cons_succ, if_true, if_false, ite_true, ite_false, Bool.false_eq_true, Bool.not_true, Bool.not_false, hmul, addN, - v_add]
        have hev : Ev n ps rs (m * T n ps + i) = true := (key _ (modT hi)).mpr (by rw [Nat.add_comm, Nat.add_mul_div_right _ _ hT0, Nat.div_eq_of_lt hi, Nat.zero_add])
        have hnn : (e2 dNotN (eVar 6) (eC .none)) [.dat (prog ps), .dat (pat rs), .dat (.list (wears n ps rs (T n ps + 1))), .own (nums F), .dat (.int (T n ps : Nat)), .dat (.int (i : Int)), .dat (optN (some m))] = some true := by
          show (e2 dNotN (eVar 6) (eC .none)) [.dat (prog ps), .dat (pat rs), .dat (.list (wears n ps rs (T n ps + 1))), .own (nums F), .dat (.int (T n ps : Nat)), .dat (.int (i : Int)), .dat (.int (m : Int))] = _
          simp only [v_var, v_own, v_varOf, v_ownOf, v_c, v_1, v_2, v_nil, v_cons, v_call, v_tup, v_lst, v_toL, v_ofL, v_toB, v_ofB, v_not, v_and, v_or, v_if, v_chain, v_ixL, v_part, v_tupL, v_l2, v_yes, v_mNil, v_mDat, v_mOwn, v_divmod, v_asL, v_asT, v_asB, v_asI, v_add, v_sub, v_neg, v_lt, v_le, v_gt, v_ge, v_isB, v_notB, v_isN, v_notN, v_isNi, v_isNn, bS, lineOk0, dIx_l, dIx_t, cLen_l, cLen_t, asSeq_l, asSeq_t, wipeD, setM, List.getElem?_cons_zero, List.getElem?_cons_succ, List.set_cons_zero, List.set_cons_succ, if_true, if_false, ite_true, ite_false, Bool.false_eq_true, Bool.not_true, Bool.not_false]
        by_cases hpos : 0 < m * T n ps + i
        · have hp : ((0 : Int) < ((m * T n ps + i : Nat) : Int)) := by omega
          refine ⟨_, [.dat (prog ps), .dat (pat rs), .dat (.list (wears n ps rs (T n ps + 1))), .own (nums (F ++ [m * T n ps + i])), .dat (.int (T n ps : Nat)), .dat (.int (i : Int)), .dat (optN (some m))], hset, .inl ((h6 _).trans ((sIf_t ?_).trans ?_)), F ++ [m * T n ps + i], _, _, rfl, nodup_app hnd fun z => ?_, fun k => ?_, by rw [List.length_append, List.length_singleton]; omega, fun k hk => ?_⟩
          · rw [v_and, hnn, bS, if_pos rfl, v_2, hsum, bS, v_c, bS, v_gt, decide_eq_true hp]
          · rw [sApp_ok (ds := nums F) hsum rfl (by rw [nums_length]; omega), nums_app]
            simp only [setM, List.set_cons_succ, List.set_cons_zero]
            rfl
          · have := ((hmem _).mp z).2.1
            rw [modT hi] at this
            omega
          · rw [List.mem_append, List.mem_singleton, hmem]
            constructor
            · rintro (z | rfl)
              · exact ⟨z.1, by omega, z.2.2⟩
              · exact ⟨hpos, by rw [modT hi]; omega, hev⟩
            · rintro ⟨z1, z2, z3⟩
              by_cases hk : k % T n ps = i
              · right
                have e1 := (key k hk).mp z3
                cases e1
                exact divT hT0 hk
              · exact .inl ⟨z1, by omega, z3⟩
          · rcases List.mem_append.mp hk with z | z
            · exact hbd k z
            · rw [List.mem_singleton.mp z]; omega
        · have hp : ¬ ((0 : Int) < ((m * T n ps + i : Nat) : Int)) := by omega
          refine ⟨_, _, hset, .inl ((h6 _).trans (sIfN_f ?_)), F, _, _, rfl, hnd, fun k => ?_, by omega, hbd⟩
          · rw [v_and, hnn, bS, if_pos rfl, v_2, hsum, bS, v_c, bS, v_gt, decide_eq_false hp]
          · rw [hmem]
            constructor
            · exact fun z => ⟨z.1, by omega, z.2.2⟩
            · rintro ⟨z1, z2, z3⟩
              refine ⟨z1, ?_, z3⟩
              by_cases hk : k % T n ps = i
              · have e1 := (key k hk).mp z3
                cases e1
                have := divT hT0 hk
                omega
              · omega)
  rw [nums_length, List.length_range, Nat.zero_add] at hmem hle
  have hf : sFor (e1 rng1 (eVar 4)) (hName 5) bSingle [.dat (prog ps), .dat (pat rs), .dat (.list (wears n ps rs (T n ps + 1))), .own [], .dat (.int (T n ps : Nat)), .bot, .bot] = _ := (sForR (T n ps) (by omega) (by simp only [v_var, v_own, v_varOf, v_ownOf, v_c, v_1, v_2, v_nil, v_cons, v_call, v_tup, v_lst, v_toL, v_ofL, v_toB, v_ofB, v_not, v_and, v_or, v_if, v_chain, v_ixL, v_part, v_tupL, v_l2, v_yes, v_mNil, v_mDat, v_mOwn, v_divmod, v_asL, v_asT, v_asB, v_asI, v_add, v_sub, v_neg, v_lt, v_le, v_gt, v_ge, v_isB, v_notB, v_isN, v_notN, v_isNi, v_isNn, bS, lineOk0, dIx_l, dIx_t, cLen_l, cLen_t, asSeq_l, asSeq_t, wipeD, setM, List.getElem?_cons_zero, List.getElem?_cons_succ, List.set_cons_zero, List.set_cons_succ, if_true, if_false, ite_true, ite_false, Bool.false_eq_true, Bool.not_true, Bool.not_false])).trans h2
  unfold bSingle at hf
  rw [sSeq_nx hf]
  have hso : lSorted (.list (nums F)) = some ((isort (F.map fun (x : Nat) => (x : Int))).map PyData.int) := by
    unfold lSorted
    rw [v_asL, bS, asIs_nums, bS]
  have hpm := perm_isort (F.map fun (x : Nat) => (x : Int))
  refine ⟨isort (F.map fun (x : Nat) => (x : Int)), ?_, up_isort _, hpm.nodup_iff.mpr ?_, fun z => ?_, fun z hz => ?_, ?_⟩
  · rw [sRet_ok (by rw [v_ofL, v_1, v_ofL, v_own]; simp only [List.getElem?_cons_zero, List.getElem?_cons_succ, v_ownOf, bS]; rw [hso, bS])]
    rfl
  · exact List.pairwise_map.mpr (hnd.imp fun hab e => hab (by omega))
  · rw [hpm.mem_iff, List.mem_map]
    constructor
    · rintro ⟨k, hk, rfl⟩
      have := (hmem k).mp hk
      exact ⟨k, rfl, this.1, this.2.2⟩
    · rintro ⟨k, rfl, h1, h2⟩
      exact ⟨k, (hmem k).mpr ⟨h1, Nat.mod_lt _ hT0, h2⟩, rfl⟩
  · obtain ⟨k, hk, rfl⟩ := List.mem_map.mp (hpm.mem_iff.mp hz)
    have := hbd k hk
    omega
  · rw [hpm.length_eq, List.length_map]
    omega
end DL

namespace DL
open PySem PySem.Spec L2
/-- the numbers of intervals of a full turn after which all wear is equal -/
def reps (n : Nat) (ps : List (List Nat)) (rs : List Nat) : List Int := ((List.range (T n ps)).filter fun k => Ev n ps rs (k + 1)).map fun k => ((k + 1 : Nat) : Int)
theorem reps_mem {n : Nat} {ps : List (List Nat)} {rs : List Nat} {z : Int} : z ∈ reps n ps rs ↔ ∃ k : Nat, z = (k : Int) ∧ 1 ≤ k ∧ k ≤ T n ps ∧ Ev n ps rs k = true := by
  unfold reps
  rw [List.mem_map]
  constructor
  · rintro ⟨k, hk, rfl⟩
    obtain ⟨h1, h2⟩ := List.mem_filter.mp hk
    have := List.mem_range.mp h1
    exact ⟨k + 1, rfl, by omega, by omega, h2⟩
  · rintro ⟨k, rfl, h1, h2, h3⟩
    refine ⟨k - 1, List.mem_filter.mpr ⟨List.mem_range.mpr (by omega), ?_⟩, ?_⟩
    · rw [show k - 1 + 1 = k by omega]; exact h3
    · rw [show k - 1 + 1 = k by omega]
theorem pair_filter {p : Nat → Bool} {m : Nat} : ((List.range m).filter p).Pairwise (· < ·) := List.Pairwise.filter _ List.pairwise_lt_range
theorem reps_up {n : Nat} {ps : List (List Nat)} {rs : List Nat} : (reps n ps rs).Pairwise (· < ·) := by
  unfold reps
  exact List.pairwise_map.mpr (pair_filter.imp fun h => by omega)
theorem find_repeated_ok {n : Nat} (hn : Sz n) {ps : List (List Nat)} (h : isPr n ps) {rs : List Nat} (hr : isRt n rs) : m_find_repeated [prog ps, pat rs] = some (.list ((reps n ps rs).map PyData.int)) := by
  unfold m_find_repeated
  rw [run_eq]
  show outO (b_find_repeated [.dat (prog ps), .dat (pat rs), .bot, .bot]) = _
  unfold b_find_repeated
  have hT := T_le hn h
  rw [sSeq_nx (sSet_ok (d := .list (wears n ps rs (T n ps + 1))) (by simp only [v_var, v_own, v_varOf, v_ownOf, v_c, v_1, v_2, v_nil, v_cons, v_call, v_tup, v_lst, v_toL, v_ofL, v_toB, v_ofB, v_not, v_and, v_or, v_if, v_chain, v_ixL, v_part, v_tupL, v_l2, v_yes, v_mNil, v_mDat, v_mOwn, v_divmod, v_asL, v_asT, v_asB, v_asI, v_add, v_sub, v_neg, v_lt, v_le, v_gt, v_ge, v_isB, v_notB, v_isN, v_notN, v_isNi, v_isNn, bS, lineOk0, dIx_l, dIx_t, cLen_l, cLen_t, asSeq_l, asSeq_t, wipeD, setM, List.getElem?_cons_zero, List.getElem?_cons_succ, List.set_cons_zero, List.set_cons_succ, if_true, if_false, ite_true, ite_false, Bool.false_eq_true, Bool.not_true, Bool.not_false, sums_ok hn h hr]))]
  simp only [setM, List.set_cons_succ, List.set_cons_zero]
  have hc : eLc [3] (e2 range2 (eC (.int 1)) (eCall cLen (eCons (eVar 2) eNil))) (hName 3) (e2 dEq (eCall m_spread (eCons (e2 dIx (eVar 2) (eVar 3)) eNil)) (eC (.int 0))) (eVar 3) [.dat (prog ps), .dat (pat rs), .dat (.list (wears n ps rs (T n ps + 1))), .bot] =
      some (((List.range (T n ps)).filter fun k => Ev n ps rs (k + 1)).map fun k => PyData.int ((k + 1 : Nat) : Int)) := by
    rw [v_lc, v_2]
    simp only [v_var, v_own, v_varOf, v_ownOf, v_c, v_1, v_2, v_nil, v_cons, v_call, v_tup, v_lst, v_toL, v_ofL, v_toB, v_ofB, v_not, v_and, v_or, v_if, v_chain, v_ixL, v_part, v_tupL, v_l2, v_yes, v_mNil, v_mDat, v_mOwn, v_divmod, v_asL, v_asT, v_asB, v_asI, v_add, v_sub, v_neg, v_lt, v_le, v_gt, v_ge, v_isB, v_notB, v_isN, v_notN, v_isNi, v_isNn, bS, lineOk0, dIx_l, dIx_t, cLen_l, cLen_t, asSeq_l, asSeq_t, wipeD, setM, List.getElem?_cons_zero, List.getElem?_cons_succ, List.set_cons_zero, List.set_cons_succ, if_true, if_false, ite_true, ite_false, Bool.false_eq_true, Bool.not_true, Bool.not_false, wears_len]
    rw [range2_ok _ (by omega), bS, lineOk_ok (by rw [List.length_map, List.length_range]; omega), bS]
    refine compD_filter (fun k => Ev n ps rs (k + 1)) _ _ fun k hk => ?_
    have hk := List.mem_range.mp hk
    refine ⟨_, rfl, ?_, ?_⟩
    · simp only [setM, List.set_cons_succ, List.set_cons_zero]
      simp only [v_var, v_own, v_varOf, v_ownOf, v_c, v_1, v_2, v_nil, v_cons, v_call, v_tup, v_lst, v_toL, v_ofL, v_toB, v_ofB, v_not, v_and, v_or, v_if, v_chain, v_ixL, v_part, v_tupL, v_l2, v_yes, v_mNil, v_mDat, v_mOwn, v_divmod, v_asL, v_asT, v_asB, v_asI, v_add, v_sub, v_neg, v_lt, v_le, v_gt, v_ge, v_isB, v_notB, v_isN, v_notN, v_isNi, v_isNn, bS, lineOk0, dIx_l, dIx_t, cLen_l, cLen_t, asSeq_l, asSeq_t, wipeD, setM, List.getElem?_cons_zero, List.getElem?_cons_succ, List.set_cons_zero, List.set_cons_succ, if_true, if_false, ite_true, ite_false, Bool.false_eq_true, Bool.not_true, Bool.not_false, wears_get (n := n) (ps := ps) (rs := rs) (m := T n ps + 1) (k := k + 1) (by omega), spread_ok (W_ne hn ps rs _), dEq_int]
      rfl
    · simp only [setM, List.set_cons_succ, List.set_cons_zero]
      simp only [v_var, v_own, v_varOf, v_ownOf, v_c, v_1, v_2, v_nil, v_cons, v_call, v_tup, v_lst, v_toL, v_ofL, v_toB, v_ofB, v_not, v_and, v_or, v_if, v_chain, v_ixL, v_part, v_tupL, v_l2, v_yes, v_mNil, v_mDat, v_mOwn, v_divmod, v_asL, v_asT, v_asB, v_asI, v_add, v_sub, v_neg, v_lt, v_le, v_gt, v_ge, v_isB, v_notB, v_isN, v_notN, v_isNi, v_isNn, bS, lineOk0, dIx_l, dIx_t, cLen_l, cLen_t, asSeq_l, asSeq_t, wipeD, setM, List.getElem?_cons_zero, List.getElem?_cons_succ, List.set_cons_zero, List.set_cons_succ, if_true, if_false, ite_true, ite_false, Bool.false_eq_true, Bool.not_true, Bool.not_false]
  have e : (reps n ps rs).map PyData.int = ((List.range (T n ps)).filter fun k => Ev n ps rs (k + 1)).map fun k => PyData.int ((k + 1 : Nat) : Int) := by unfold reps; rw [List.map_map]; rfl
  rw [sRet_ok (d := .list ((reps n ps rs).map PyData.int)) (by rw [v_ofL, hc, bS, e])]
  rfl
/-! ### the first -/
theorem dNe_ints (S : List Int) : dNe (.list (S.map PyData.int)) (.list []) = some (!S.isEmpty) := dNe_nil S
theorem Ev_turn {n : Nat} (hn : Sz n) {ps : List (List Nat)} (h : isPr n ps) {rs : List Nat} (hs : stays n ps rs = true) (k : Nat) : Ev n ps rs (k + T n ps) = Ev n ps rs k := by
  unfold Ev
  rw [gap_turn hn h hs]
theorem Ev_mod {n : Nat} (hn : Sz n) {ps : List (List Nat)} (h : isPr n ps) {rs : List Nat} (hs : stays n ps rs = true) (k : Nat) : Ev n ps rs (k % T n ps) = Ev n ps rs k := by
  unfold Ev
  rw [gap_mod hn h hs]
/-- the first of a sorted list of all that do -/
theorem head_least {S : List Int} (hS : S.Pairwise (· ≤ ·)) {x : Int} {l : List Int} (e : S = x :: l) : x ∈ S ∧ ∀ z ∈ S, x ≤ z := by
  subst e
  refine ⟨List.mem_cons_self, fun z hz => ?_⟩
  rcases List.mem_cons.mp hz with rfl | hz
  · exact Int.le_refl _
  · exact (List.pairwise_cons.mp hS).1 z hz
structure First (n : Nat) (ps : List (List Nat)) (rs : List Nat) (o : Option Nat) : Prop where
  some : ∀ f, o = some f → 1 ≤ f ∧ f ≤ 1000000 ∧ Ev n ps rs f = true ∧ ∀ k, 1 ≤ k → Ev n ps rs k = true → f ≤ k
  none : o = none → ∀ k, 1 ≤ k → Ev n ps rs k = false
theorem first_equal_ok {n : Nat} (hn : Sz n) {ps : List (List Nat)} (h : isPr n ps) {rs : List Nat} (hr : isRt n rs) : ∃ o, m_first_equal [prog ps, pat rs] = some (optN o) ∧ First n ps rs o := by
  have hT := T_le hn h
  have hT0 := T_pos hn h
  /- the list that is looked at -/
  have key : ∃ S : List Int, (eIf (eToB (eCall m_stays (eCons (eVar 0) (eCons (eVar 1) eNil)))) (eCall m_find_repeated (eCons (eVar 0) (eCons (eVar 1) eNil))) (eCall m_find_single (eCons (eVar 0) (eCons (eVar 1) eNil)))) [.dat (prog ps), .dat (pat rs), .bot] = some (.list (S.map PyData.int)) ∧
      S.Pairwise (· ≤ ·) ∧ (∀ z ∈ S, ∃ k : Nat, z = (k : Int) ∧ 1 ≤ k ∧ k ≤ 1000000 ∧ Ev n ps rs k = true) ∧ (∀ k : Nat, 1 ≤ k → Ev n ps rs k = true → ∃ z ∈ S, z ≤ (k : Int)) := by
    cases hs : stays n ps rs with
    | true =>
      refine ⟨reps n ps rs, by simp only [v_var, v_own, v_varOf, v_ownOf, v_c, v_1, v_2, v_nil, v_cons, v_call, v_tup, v_lst, v_toL, v_ofL, v_toB, v_ofB, v_not, v_and, v_or, v_if, v_chain, v_ixL, v_part, v_tupL, v_l2, v_yes, v_mNil, v_mDat, v_mOwn, v_divmod, v_asL, v_asT, v_asB, v_asI, v_add, v_sub, v_neg, v_lt, v_le, v_gt, v_ge, v_isB, v_notB, v_isN, v_notN, v_isNi, v_isNn, bS, lineOk0, dIx_l, dIx_t, cLen_l, cLen_t, asSeq_l, asSeq_t, wipeD, setM, List.getElem?_cons_zero, List.getElem?_cons_succ, List.set_cons_zero, List.set_cons_succ, if_true, if_false, ite_true, ite_false, Bool.false_eq_true, Bool.not_true, Bool.not_false, stays_ok hn h hr, hs, find_repeated_ok hn h hr], reps_up.imp fun h => by omega, fun z hz => ?_, fun k h1 h2 => ?_⟩
      · obtain ⟨k, e, a, b, c⟩ := reps_mem.mp hz
        exact ⟨k, e, a, by omega, c⟩
      · by_cases hk : k ≤ T n ps
        · exact ⟨k, reps_mem.mpr ⟨k, rfl, h1, hk, h2⟩, Int.le_refl _⟩
        · exact ⟨T n ps, reps_mem.mpr ⟨T n ps, rfl, hT0, Nat.le_refl _, hs⟩, by omega⟩
    | false =>
      obtain ⟨S, e, up, nd, mem, bd, _⟩ := find_single_ok hn h hr hs
      refine ⟨S, by simp only [v_var, v_own, v_varOf, v_ownOf, v_c, v_1, v_2, v_nil, v_cons, v_call, v_tup, v_lst, v_toL, v_ofL, v_toB, v_ofB, v_not, v_and, v_or, v_if, v_chain, v_ixL, v_part, v_tupL, v_l2, v_yes, v_mNil, v_mDat, v_mOwn, v_divmod, v_asL, v_asT, v_asB, v_asI, v_add, v_sub, v_neg, v_lt, v_le, v_gt, v_ge, v_isB, v_notB, v_isN, v_notN, v_isNi, v_isNn, bS, lineOk0, dIx_l, dIx_t, cLen_l, cLen_t, asSeq_l, asSeq_t, wipeD, setM, List.getElem?_cons_zero, List.getElem?_cons_succ, List.set_cons_zero, List.set_cons_succ, if_true, if_false, ite_true, ite_false, Bool.false_eq_true, Bool.not_true, Bool.not_false, stays_ok hn h hr, hs, e], up, fun z hz => ?_, fun k h1 h2 => ⟨k, (mem k).mpr ⟨k, rfl, h1, h2⟩, Int.le_refl _⟩⟩
      obtain ⟨k, e, a, c⟩ := (mem z).mp hz
      have := bd z hz
      exact ⟨k, e, a, by omega, c⟩
  obtain ⟨S, e, up, mem1, mem2⟩ := key
  unfold m_first_equal
  rw [run_eq]
  show ∃ o, outO (b_first_equal [.dat (prog ps), .dat (pat rs), .bot]) = some (optN o) ∧ _
  unfold b_first_equal
  rw [sSeq_nx (sExpr_ok (d := .none) (by simp only [v_var, v_own, v_varOf, v_ownOf, v_c, v_1, v_2, v_nil, v_cons, v_call, v_tup, v_lst, v_toL, v_ofL, v_toB, v_ofB, v_not, v_and, v_or, v_if, v_chain, v_ixL, v_part, v_tupL, v_l2, v_yes, v_mNil, v_mDat, v_mOwn, v_divmod, v_asL, v_asT, v_asB, v_asI, v_add, v_sub, v_neg, v_lt, v_le, v_gt, v_ge, v_isB, v_notB, v_isN, v_notN, v_isNi, v_isNn, bS, lineOk0, dIx_l, dIx_t, cLen_l, cLen_t, asSeq_l, asSeq_t, wipeD, setM, List.getElem?_cons_zero, List.getElem?_cons_succ, List.set_cons_zero, List.set_cons_succ, if_true, if_false, ite_true, ite_false, Bool.false_eq_true, Bool.not_true, Bool.not_false, check_rates_ok hn h hr])), sSeq_nx (sSet_ok e)]
  simp only [setM, List.set_cons_succ, List.set_cons_zero]
  cases hS : S with
  | nil =>
    refine ⟨none, ?_, fun f z => (by cases z), fun _ k hk => ?_⟩
    · rw [sRet_ok (d := .none) (by simp only [v_var, v_own, v_varOf, v_ownOf, v_c, v_1, v_2, v_nil, v_cons, v_call, v_tup, v_lst, v_toL, v_ofL, v_toB, v_ofB, v_not, v_and, v_or, v_if, v_chain, v_ixL, v_part, v_tupL, v_l2, v_yes, v_mNil, v_mDat, v_mOwn, v_divmod, v_asL, v_asT, v_asB, v_asI, v_add, v_sub, v_neg, v_lt, v_le, v_gt, v_ge, v_isB, v_notB, v_isN, v_notN, v_isNi, v_isNn, bS, lineOk0, dIx_l, dIx_t, cLen_l, cLen_t, asSeq_l, asSeq_t, wipeD, setM, List.getElem?_cons_zero, List.getElem?_cons_succ, List.set_cons_zero, List.set_cons_succ, if_true, if_false, ite_true, ite_false, Bool.false_eq_true, Bool.not_true, Bool.not_false, dNe_ints, List.isEmpty_nil])]
      rfl
    · cases he : Ev n ps rs k with
      | false => rfl
      | true =>
        obtain ⟨z, hz, _⟩ := mem2 k hk he
        rw [hS] at hz
        cases hz
  | cons x l =>
    obtain ⟨hx, hle⟩ := head_least up hS
    obtain ⟨k, rfl, k1, k2, k3⟩ := mem1 x hx
    refine ⟨some k, ?_, fun f z => ?_, fun z => (by cases z)⟩
    · have hat : atI (((k : Int) :: l).map PyData.int) 0 = some (.int (k : Int)) := atI_ok (i := 0) rfl
      rw [sRet_ok (d := .int (k : Int)) (by simp only [v_var, v_own, v_varOf, v_ownOf, v_c, v_1, v_2, v_nil, v_cons, v_call, v_tup, v_lst, v_toL, v_ofL, v_toB, v_ofB, v_not, v_and, v_or, v_if, v_chain, v_ixL, v_part, v_tupL, v_l2, v_yes, v_mNil, v_mDat, v_mOwn, v_divmod, v_asL, v_asT, v_asB, v_asI, v_add, v_sub, v_neg, v_lt, v_le, v_gt, v_ge, v_isB, v_notB, v_isN, v_notN, v_isNi, v_isNn, bS, lineOk0, dIx_l, dIx_t, cLen_l, cLen_t, asSeq_l, asSeq_t, wipeD, setM, List.getElem?_cons_zero, List.getElem?_cons_succ, List.set_cons_zero, List.set_cons_succ, if_true, if_false, ite_true, ite_false, Bool.false_eq_true, Bool.not_true, Bool.not_false, dNe_ints, List.isEmpty_cons, hat])]
      rfl
    · cases z
      refine ⟨k1, k2, k3, fun j j1 j2 => ?_⟩
      obtain ⟨z, hz, hzj⟩ := mem2 j j1 j2
      have := hle z hz
      omega
/-! ### how many -/
def cnt (n : Nat) (ps : List (List Nat)) (rs : List Nat) (m : Nat) : Nat := ((List.range m).filter fun k => Ev n ps rs (k + 1)).length
theorem cnt_succ (n : Nat) (ps : List (List Nat)) (rs : List Nat) (m : Nat) : cnt n ps rs (m + 1) = cnt n ps rs m + (if Ev n ps rs (m + 1) = true then 1 else 0) := by
  unfold cnt
  rw [List.range_succ, List.filter_append, List.length_append]
  cases e : Ev n ps rs (m + 1) with
  | true => rw [List.filter_cons_of_pos (p := fun k => Ev n ps rs (k + 1)) e]; rfl
  | false => rw [List.filter_cons_of_neg (p := fun k => Ev n ps rs (k + 1)) (by rw [e]; exact Bool.false_ne_true)]; rfl
theorem cnt_turn {n : Nat} (hn : Sz n) {ps : List (List Nat)} (h : isPr n ps) {rs : List Nat} (hs : stays n ps rs = true) : ∀ m, cnt n ps rs (m + T n ps) = cnt n ps rs (T n ps) + cnt n ps rs m
  | 0 => by rw [Nat.zero_add]; rfl
  | m + 1 => by
    have e : m + 1 + T n ps = (m + T n ps) + 1 := by omega
    have e2 : m + T n ps + 1 = (m + 1) + T n ps := by omega
    rw [e, cnt_succ, cnt_turn hn h hs m, cnt_succ, e2, Ev_turn hn h hs]
    omega
theorem cnt_turns {n : Nat} (hn : Sz n) {ps : List (List Nat)} (h : isPr n ps) {rs : List Nat} (hs : stays n ps rs = true) (m : Nat) : ∀ q, cnt n ps rs (m + q * T n ps) = q * cnt n ps rs (T n ps) + cnt n ps rs m
  | 0 => by rw [Nat.zero_mul, Nat.zero_mul, Nat.add_zero, Nat.zero_add]
  | q + 1 => by
    have e : m + (q + 1) * T n ps = (m + q * T n ps) + T n ps := by rw [Nat.add_mul, Nat.one_mul, Nat.add_assoc]
    rw [e, cnt_turn hn h hs, cnt_turns hn h hs m q, Nat.add_mul, Nat.one_mul]
    omega
/-- as many as another list tells, if it tells the same numbers, each once -/
theorem cnt_of {n : Nat} {ps : List (List Nat)} {rs : List Nat} {m : Nat} {S : List Int} (hnd : S.Nodup) (hm : ∀ z, z ∈ S ↔ ∃ k : Nat, z = (k : Int) ∧ 1 ≤ k ∧ k ≤ m ∧ Ev n ps rs k = true) : S.length = cnt n ps rs m := by
  have e : cnt n ps rs m = (((List.range m).filter fun k => Ev n ps rs (k + 1)).map fun k => ((k + 1 : Nat) : Int)).length := by rw [List.length_map]; rfl
  rw [e]
  refine len_same hnd (List.pairwise_map.mpr (pair_filter.imp fun h => by omega)) fun z => ?_
  rw [hm, List.mem_map]
  constructor
  · rintro ⟨k, rfl, h1, h2, h3⟩
    refine ⟨k - 1, List.mem_filter.mpr ⟨List.mem_range.mpr (by omega), ?_⟩, ?_⟩
    · rw [show k - 1 + 1 = k by omega]; exact h3
    · rw [show k - 1 + 1 = k by omega]
  · rintro ⟨k, hk, rfl⟩
    obtain ⟨h1, h2⟩ := List.mem_filter.mp hk
    have := List.mem_range.mp h1
    exact ⟨k + 1, rfl, by omega, by omega, h2⟩
end DL

namespace DL
open PySem PySem.Spec L2
theorem is_equal_again_ok {n : Nat} (hn : Sz n) {ps : List (List Nat)} (h : isPr n ps) {rs : List Nat} (hr : isRt n rs) : m_is_equal_again [prog ps, pat rs] = some (.bool (stays n ps rs)) := by
  unfold m_is_equal_again
  rw [run_eq]
  show outO (b_is_equal_again [.dat (prog ps), .dat (pat rs)]) = _
  unfold b_is_equal_again
  rw [sSeq_nx (sExpr_ok (d := .none) (by simp only [v_var, v_own, v_varOf, v_ownOf, v_c, v_1, v_2, v_nil, v_cons, v_call, v_tup, v_lst, v_toL, v_ofL, v_toB, v_ofB, v_not, v_and, v_or, v_if, v_chain, v_ixL, v_part, v_tupL, v_l2, v_yes, v_mNil, v_mDat, v_mOwn, v_divmod, v_asL, v_asT, v_asB, v_asI, v_add, v_sub, v_neg, v_lt, v_le, v_gt, v_ge, v_isB, v_notB, v_isN, v_notN, v_isNi, v_isNn, bS, lineOk0, dIx_l, dIx_t, cLen_l, cLen_t, asSeq_l, asSeq_t, wipeD, setM, List.getElem?_cons_zero, List.getElem?_cons_succ, List.set_cons_zero, List.set_cons_succ, if_true, if_false, ite_true, ite_false, Bool.false_eq_true, Bool.not_true, Bool.not_false, check_rates_ok hn h hr])), sRet_ok (d := .bool (stays n ps rs)) (by simp only [v_var, v_own, v_varOf, v_ownOf, v_c, v_1, v_2, v_nil, v_cons, v_call, v_tup, v_lst, v_toL, v_ofL, v_toB, v_ofB, v_not, v_and, v_or, v_if, v_chain, v_ixL, v_part, v_tupL, v_l2, v_yes, v_mNil, v_mDat, v_mOwn, v_divmod, v_asL, v_asT, v_asB, v_asI, v_add, v_sub, v_neg, v_lt, v_le, v_gt, v_ge, v_isB, v_notB, v_isN, v_notN, v_isNi, v_isNn, bS, lineOk0, dIx_l, dIx_t, cLen_l, cLen_t, asSeq_l, asSeq_t, wipeD, setM, List.getElem?_cons_zero, List.getElem?_cons_succ, List.set_cons_zero, List.set_cons_succ, if_true, if_false, ite_true, ite_false, Bool.false_eq_true, Bool.not_true, Bool.not_false, stays_ok hn h hr])]
  rfl
/-- [x for x in xs if x <= m] of a list of numbers -/
theorem lc_le {vs : List Nat} {j a : Nat} {g : DE → Option (List D)} {ρ : DE} {S : List Int} {m : Int} (hl : S.length ≤ 1000) (hg : g ρ = some (S.map PyData.int)) (hj : ∀ z : Int, (((wipeD ρ vs).set j (.dat (.int z))) : DE)[j]? = some (.dat (.int z))) (ha : ∀ z : Int, (((wipeD ρ vs).set j (.dat (.int z))) : DE)[a]? = some (.dat (.int m))) :
    eLc vs g (hName j) (e2 dLe (eVar j) (eVar a)) (eVar j) ρ = some ((S.filter fun z => decide (z ≤ m)).map PyData.int) := by
  rw [v_lc, hg, bS, lineOk_ok (by rw [List.length_map]; omega), bS]
  refine compD_filter (fun z => decide (z ≤ m)) _ _ fun z _ => ⟨_, rfl, ?_, ?_⟩
  · rw [v_2, v_var, hj, v_varOf, bS, v_var, ha, v_varOf, bS, v_le]
  · rw [v_var, hj, v_varOf]
theorem reps_len {n : Nat} (ps : List (List Nat)) (rs : List Nat) : (reps n ps rs).length ≤ T n ps := by
  unfold reps
  rw [List.length_map]
  exact Nat.le_trans (List.length_filter_le _ _) (by rw [List.length_range]; exact Nat.le_refl _)
theorem reps_nodup {n : Nat} {ps : List (List Nat)} {rs : List Nat} : (reps n ps rs).Nodup := reps_up.imp fun h => by omega
theorem count_equal_ok {n : Nat} (hn : Sz n) {ps : List (List Nat)} (h : isPr n ps) {rs : List Nat} (hr : isRt n rs) {m : Nat} (hm : m ≤ 1000000) : m_count_equal [prog ps, pat rs, .int (m : Int)] = some (.int (cnt n ps rs m : Nat)) := by
  have hT := T_le hn h
  have hT0 := T_pos hn h
  unfold m_count_equal
  rw [run_eq]
  show outO (b_count_equal [.dat (prog ps), .dat (pat rs), .dat (.int (m : Int)), .bot, .bot, .bot, .bot]) = _
  unfold b_count_equal
  rw [sSeq_nx (sExpr_ok (d := .none) (by simp only [v_var, v_own, v_varOf, v_ownOf, v_c, v_1, v_2, v_nil, v_cons, v_call, v_tup, v_lst, v_toL, v_ofL, v_toB, v_ofB, v_not, v_and, v_or, v_if, v_chain, v_ixL, v_part, v_tupL, v_l2, v_yes, v_mNil, v_mDat, v_mOwn, v_divmod, v_asL, v_asT, v_asB, v_asI, v_add, v_sub, v_neg, v_lt, v_le, v_gt, v_ge, v_isB, v_notB, v_isN, v_notN, v_isNi, v_isNn, bS, lineOk0, dIx_l, dIx_t, cLen_l, cLen_t, asSeq_l, asSeq_t, wipeD, setM, List.getElem?_cons_zero, List.getElem?_cons_succ, List.set_cons_zero, List.set_cons_succ, if_true, if_false, ite_true, ite_false, Bool.false_eq_true, Bool.not_true, Bool.not_false, check_rates_ok hn h hr])), sSeq_nx (sExpr_ok (d := .none) (by simp only [v_var, v_own, v_varOf, v_ownOf, v_c, v_1, v_2, v_nil, v_cons, v_call, v_tup, v_lst, v_toL, v_ofL, v_toB, v_ofB, v_not, v_and, v_or, v_if, v_chain, v_ixL, v_part, v_tupL, v_l2, v_yes, v_mNil, v_mDat, v_mOwn, v_divmod, v_asL, v_asT, v_asB, v_asI, v_add, v_sub, v_neg, v_lt, v_le, v_gt, v_ge, v_isB, v_notB, v_isN, v_notN, v_isNi, v_isNn, bS, lineOk0, dIx_l, dIx_t, cLen_l, cLen_t, asSeq_l, asSeq_t, wipeD, setM, List.getElem?_cons_zero, List.getElem?_cons_succ, List.set_cons_zero, List.set_cons_succ, if_true, if_false, ite_true, ite_false, Bool.false_eq_true, Bool.not_true, Bool.not_false, check_number_ok m hm]))]
  cases hs : stays n ps rs with
  | false =>
    obtain ⟨S, e, up, nd, mem, bd, hlen⟩ := find_single_ok hn h hr hs
    have hc := lc_le (vs := [3]) (j := 3) (a := 2) (g := e1 asSeq (eCall m_find_single (eCons (eVar 0) (eCons (eVar 1) eNil)))) (ρ := [.dat (prog ps), .dat (pat rs), .dat (.int (m : Int)), .bot, .bot, .bot, .bot]) (S := S) (m := (m : Int)) (by omega) (by simp only [v_var, v_own, v_varOf, v_ownOf, v_c, v_1, v_2, v_nil, v_cons, v_call, v_tup, v_lst, v_toL, v_ofL, v_toB, v_ofB, v_not, v_and, v_or, v_if, v_chain, v_ixL, v_part, v_tupL, v_l2, v_yes, v_mNil, v_mDat, v_mOwn, v_divmod, v_asL, v_asT, v_asB, v_asI, v_add, v_sub, v_neg, v_lt, v_le, v_gt, v_ge, v_isB, v_notB, v_isN, v_notN, v_isNi, v_isNn, bS, lineOk0, dIx_l, dIx_t, cLen_l, cLen_t, asSeq_l, asSeq_t, wipeD, setM, List.getElem?_cons_zero, List.getElem?_cons_succ, List.set_cons_zero, List.set_cons_succ, if_true, if_false, ite_true, ite_false, Bool.false_eq_true, Bool.not_true, Bool.not_false, e]) (fun z => rfl) (fun z => rfl)
    have hcnt : (S.filter fun z => decide (z ≤ (m : Int))).length = cnt n ps rs m := cnt_of (List.Pairwise.filter _ nd) fun z => by
      rw [List.mem_filter, mem]
      constructor
      · rintro ⟨⟨k, rfl, h1, h2⟩, h3⟩
        have := of_decide_eq_true h3
        exact ⟨k, rfl, h1, by omega, h2⟩
      · rintro ⟨k, rfl, h1, h2, h3⟩
        exact ⟨⟨k, rfl, h1, h3⟩, decide_eq_true (by omega)⟩
    rw [sSeq_ret (d := .int (cnt n ps rs m : Nat)) ((sIf_t (by simp only [v_var, v_own, v_varOf, v_ownOf, v_c, v_1, v_2, v_nil, v_cons, v_call, v_tup, v_lst, v_toL, v_ofL, v_toB, v_ofB, v_not, v_and, v_or, v_if, v_chain, v_ixL, v_part, v_tupL, v_l2, v_yes, v_mNil, v_mDat, v_mOwn, v_divmod, v_asL, v_asT, v_asB, v_asI, v_add, v_sub, v_neg, v_lt, v_le, v_gt, v_ge, v_isB, v_notB, v_isN, v_notN, v_isNi, v_isNn, bS, lineOk0, dIx_l, dIx_t, cLen_l, cLen_t, asSeq_l, asSeq_t, wipeD, setM, List.getElem?_cons_zero, List.getElem?_cons_succ, List.set_cons_zero, List.set_cons_succ, if_true, if_false, ite_true, ite_false, Bool.false_eq_true, Bool.not_true, Bool.not_false, stays_ok hn h hr, hs])).trans (sRet_ok (by
      rw [v_call, v_cons, v_ofL, hc, bS, bS, v_nil, bS, bS, cLen_l, List.length_map, hcnt])))]
    rfl
  | true =>
    have hrl := reps_len (n := n) ps rs
    have hmod := Nat.mod_lt m hT0
    rw [sSeq_nx (sIfN_f (by simp only [v_var, v_own, v_varOf, v_ownOf, v_c, v_1, v_2, v_nil, v_cons, v_call, v_tup, v_lst, v_toL, v_ofL, v_toB, v_ofB, v_not, v_and, v_or, v_if, v_chain, v_ixL, v_part, v_tupL, v_l2, v_yes, v_mNil, v_mDat, v_mOwn, v_divmod, v_asL, v_asT, v_asB, v_asI, v_add, v_sub, v_neg, v_lt, v_le, v_gt, v_ge, v_isB, v_notB, v_isN, v_notN, v_isNi, v_isNn, bS, lineOk0, dIx_l, dIx_t, cLen_l, cLen_t, asSeq_l, asSeq_t, wipeD, setM, List.getElem?_cons_zero, List.getElem?_cons_succ, List.set_cons_zero, List.set_cons_succ, if_true, if_false, ite_true, ite_false, Bool.false_eq_true, Bool.not_true, Bool.not_false, stays_ok hn h hr, hs])), sSeq_nx (sSet_ok (d := .list ((reps n ps rs).map PyData.int)) (by simp only [v_var, v_own, v_varOf, v_ownOf, v_c, v_1, v_2, v_nil, v_cons, v_call, v_tup, v_lst, v_toL, v_ofL, v_toB, v_ofB, v_not, v_and, v_or, v_if, v_chain, v_ixL, v_part, v_tupL, v_l2, v_yes, v_mNil, v_mDat, v_mOwn, v_divmod, v_asL, v_asT, v_asB, v_asI, v_add, v_sub, v_neg, v_lt, v_le, v_gt, v_ge, v_isB, v_notB, v_isN, v_notN, v_isNi, v_isNn, bS, lineOk0, dIx_l, dIx_t, cLen_l, cLen_t, asSeq_l, asSeq_t, wipeD, setM, List.getElem?_cons_zero, List.getElem?_cons_succ, List.set_cons_zero, List.set_cons_succ, if_true, if_false, ite_true, ite_false, Bool.false_eq_true, Bool.not_true, Bool.not_false, find_repeated_ok hn h hr]))]
    simp only [setM, List.set_cons_succ, List.set_cons_zero]
    rw [sSeq_nx (sAsg_ok (d := .tuple [.int ((m / T n ps : Nat) : Int), .int ((m % T n ps : Nat) : Int)]) (ρ' := [.dat (prog ps), .dat (pat rs), .dat (.int (m : Int)), .bot, .dat (.list ((reps n ps rs).map PyData.int)), .dat (.int ((m / T n ps : Nat) : Int)), .dat (.int ((m % T n ps : Nat) : Int))]) (by
      rw [v_divmod]
      simp only [v_var, v_own, v_varOf, v_ownOf, v_c, v_1, v_2, v_nil, v_cons, v_call, v_tup, v_lst, v_toL, v_ofL, v_toB, v_ofB, v_not, v_and, v_or, v_if, v_chain, v_ixL, v_part, v_tupL, v_l2, v_yes, v_mNil, v_mDat, v_mOwn, v_divmod, v_asL, v_asT, v_asB, v_asI, v_add, v_sub, v_neg, v_lt, v_le, v_gt, v_ge, v_isB, v_notB, v_isN, v_notN, v_isNi, v_isNn, bS, lineOk0, dIx_l, dIx_t, cLen_l, cLen_t, asSeq_l, asSeq_t, wipeD, setM, List.getElem?_cons_zero, List.getElem?_cons_succ, List.set_cons_zero, List.set_cons_succ, if_true, if_false, ite_true, ite_false, Bool.false_eq_true, Bool.not_true, Bool.not_false, full_turn_ok hn h, upto_len]
      exact divmodN m (T n ps) hT0 (by omega)) rfl)]
    have hc := lc_le (vs := [3]) (j := 3) (a := 6) (g := e1 asSeq (eVar 4)) (ρ := [.dat (prog ps), .dat (pat rs), .dat (.int (m : Int)), .bot, .dat (.list ((reps n ps rs).map PyData.int)), .dat (.int ((m / T n ps : Nat) : Int)), .dat (.int ((m % T n ps : Nat) : Int))]) (S := reps n ps rs) (m := ((m % T n ps : Nat) : Int)) (by omega) (by simp only [v_var, v_own, v_varOf, v_ownOf, v_c, v_1, v_2, v_nil, v_cons, v_call, v_tup, v_lst, v_toL, v_ofL, v_toB, v_ofB, v_not, v_and, v_or, v_if, v_chain, v_ixL, v_part, v_tupL, v_l2, v_yes, v_mNil, v_mDat, v_mOwn, v_divmod, v_asL, v_asT, v_asB, v_asI, v_add, v_sub, v_neg, v_lt, v_le, v_gt, v_ge, v_isB, v_notB, v_isN, v_notN, v_isNi, v_isNn, bS, lineOk0, dIx_l, dIx_t, cLen_l, cLen_t, asSeq_l, asSeq_t, wipeD, setM, List.getElem?_cons_zero, List.getElem?_cons_succ, List.set_cons_zero, List.set_cons_succ, if_true, if_false, ite_true, ite_false, Bool.false_eq_true, Bool.not_true, Bool.not_false]) (fun z => rfl) (fun z => rfl)
    have c1 : (reps n ps rs).length = cnt n ps rs (T n ps) := cnt_of reps_nodup fun z => reps_mem
    have c2 : ((reps n ps rs).filter fun z => decide (z ≤ ((m % T n ps : Nat) : Int))).length = cnt n ps rs (m % T n ps) := cnt_of (List.Pairwise.filter _ reps_nodup) fun z => by
      rw [List.mem_filter, reps_mem]
      constructor
      · rintro ⟨⟨k, rfl, h1, h2, h4⟩, h3⟩
        have := of_decide_eq_true h3
        exact ⟨k, rfl, h1, by omega, h4⟩
      · rintro ⟨k, rfl, h1, h2, h3⟩
        exact ⟨⟨k, rfl, h1, by omega, h3⟩, decide_eq_true (by omega)⟩
    have e := cnt_turns hn h hs (m % T n ps) (m / T n ps)
    rw [show m % T n ps + m / T n ps * T n ps = m by rw [Nat.mul_comm]; exact Nat.mod_add_div m _] at e
    rw [sRet_ok (d := .int (cnt n ps rs m : Nat)) (by
      rw [v_2, v_2, v_call (g := eCons (eOfL _) eNil), v_cons, v_ofL, hc]
      simp only [v_var, v_own, v_varOf, v_ownOf, v_c, v_1, v_2, v_nil, v_cons, v_call, v_tup, v_lst, v_toL, v_ofL, v_toB, v_ofB, v_not, v_and, v_or, v_if, v_chain, v_ixL, v_part, v_tupL, v_l2, v_yes, v_mNil, v_mDat, v_mOwn, v_divmod, v_asL, v_asT, v_asB, v_asI, v_add, v_sub, v_neg, v_lt, v_le, v_gt, v_ge, v_isB, v_notB, v_isN, v_notN, v_isNi, v_isNn, bS, lineOk0, dIx_l, dIx_t, cLen_l, cLen_t, asSeq_l, asSeq_t, wipeD, setM, List.getElem?_cons_zero, List.getElem?_cons_succ, List.set_cons_zero, List.set_cons_succ, if_true, if_false, ite_true, ite_false, Bool.false_eq_true, Bool.not_true, Bool.not_false, List.length_map, c1, c2, mulN' (m / T n ps) (cnt n ps rs (T n ps)) (by omega), addN, - v_add]
      rw [e])]
    rfl
end DL

namespace DL
open PySem PySem.Spec L2
/-! ### fair for all rates -/
def unit (n j : Nat) : List Nat := (List.range n).map fun p => if p = j then 1 else 0
theorem unit_R (n j : Nat) : isRt n (unit n j) := ⟨by unfold unit; rw [List.length_map, List.length_range], fun x hx => by
  obtain ⟨p, _, rfl⟩ := List.mem_map.mp hx
  split <;> omega⟩
theorem unit_get {n p : Nat} (j : Nat) (h : p < n) : (unit n j).getD p 0 = if p = j then 1 else 0 := by
  unfold unit
  have := idp_get h
  unfold idp at this
  rw [getD_map (f := fun p => if p = j then 1 else 0) (by rw [List.length_range]; exact h), this]
theorem always_fair_ok {n : Nat} (hn : Sz n) {ps : List (List Nat)} (h : isPr n ps) : m_always_fair [prog ps] = some (.bool ((List.range n).all fun j => stays n ps (unit n j))) := by
  unfold m_always_fair
  rw [run_eq]
  show outO (b_always_fair [.dat (prog ps), .bot, .bot, .bot, .bot, .bot]) = _
  unfold b_always_fair
  have hn5 := hn.le
  rw [sSeq_nx (sExpr_ok (d := .none) (by simp only [v_var, v_own, v_varOf, v_ownOf, v_c, v_1, v_2, v_nil, v_cons, v_call, v_tup, v_lst, v_toL, v_ofL, v_toB, v_ofB, v_not, v_and, v_or, v_if, v_chain, v_ixL, v_part, v_tupL, v_l2, v_yes, v_mNil, v_mDat, v_mOwn, v_divmod, v_asL, v_asT, v_asB, v_asI, v_add, v_sub, v_neg, v_lt, v_le, v_gt, v_ge, v_isB, v_notB, v_isN, v_notN, v_isNi, v_isNn, bS, lineOk0, dIx_l, dIx_t, cLen_l, cLen_t, asSeq_l, asSeq_t, wipeD, setM, List.getElem?_cons_zero, List.getElem?_cons_succ, List.set_cons_zero, List.set_cons_succ, if_true, if_false, ite_true, ite_false, Bool.false_eq_true, Bool.not_true, Bool.not_false, check_program_ok hn h])), sSeq_nx (sSet_ok (d := .int (n : Int)) (by simp only [v_var, v_own, v_varOf, v_ownOf, v_c, v_1, v_2, v_nil, v_cons, v_call, v_tup, v_lst, v_toL, v_ofL, v_toB, v_ofB, v_not, v_and, v_or, v_if, v_chain, v_ixL, v_part, v_tupL, v_l2, v_yes, v_mNil, v_mDat, v_mOwn, v_divmod, v_asL, v_asT, v_asB, v_asI, v_add, v_sub, v_neg, v_lt, v_le, v_gt, v_ge, v_isB, v_notB, v_isN, v_notN, v_isNi, v_isNn, bS, lineOk0, dIx_l, dIx_t, cLen_l, cLen_t, asSeq_l, asSeq_t, wipeD, setM, List.getElem?_cons_zero, List.getElem?_cons_succ, List.set_cons_zero, List.set_cons_succ, if_true, if_false, ite_true, ite_false, Bool.false_eq_true, Bool.not_true, Bool.not_false, dIx_prog0 h.pos, cLen_pat (nth_P h h.pos)]))]
  simp only [setM, List.set_cons_succ, List.set_cons_zero]
  rw [sSeq_nx (sSet_ok (d := .list ((List.range n).map fun j => pat (unit n j))) (by
    rw [v_ofL, lc_rg (n := n) (by omega) (by simp only [v_var, v_own, v_varOf, v_ownOf, v_c, v_1, v_2, v_nil, v_cons, v_call, v_tup, v_lst, v_toL, v_ofL, v_toB, v_ofB, v_not, v_and, v_or, v_if, v_chain, v_ixL, v_part, v_tupL, v_l2, v_yes, v_mNil, v_mDat, v_mOwn, v_divmod, v_asL, v_asT, v_asB, v_asI, v_add, v_sub, v_neg, v_lt, v_le, v_gt, v_ge, v_isB, v_notB, v_isN, v_notN, v_isNi, v_isNn, bS, lineOk0, dIx_l, dIx_t, cLen_l, cLen_t, asSeq_l, asSeq_t, wipeD, setM, List.getElem?_cons_zero, List.getElem?_cons_succ, List.set_cons_zero, List.set_cons_succ, if_true, if_false, ite_true, ite_false, Bool.false_eq_true, Bool.not_true, Bool.not_false]) (fun j => pat (unit n j)) (fun j hj => by
      rw [v_tupL, lc_rg (n := n) (by omega) (by simp only [v_var, v_own, v_varOf, v_ownOf, v_c, v_1, v_2, v_nil, v_cons, v_call, v_tup, v_lst, v_toL, v_ofL, v_toB, v_ofB, v_not, v_and, v_or, v_if, v_chain, v_ixL, v_part, v_tupL, v_l2, v_yes, v_mNil, v_mDat, v_mOwn, v_divmod, v_asL, v_asT, v_asB, v_asI, v_add, v_sub, v_neg, v_lt, v_le, v_gt, v_ge, v_isB, v_notB, v_isN, v_notN, v_isNi, v_isNn, bS, lineOk0, dIx_l, dIx_t, cLen_l, cLen_t, asSeq_l, asSeq_t, wipeD, setM, List.getElem?_cons_zero, List.getElem?_cons_succ, List.set_cons_zero, List.set_cons_succ, if_true, if_false, ite_true, ite_false, Bool.false_eq_true, Bool.not_true, Bool.not_false]) (fun p => .int (((if p = j then 1 else 0 : Nat)) : Int)) (fun p hp => by
        simp only [v_var, v_own, v_varOf, v_ownOf, v_c, v_1, v_2, v_nil, v_cons, v_call, v_tup, v_lst, v_toL, v_ofL, v_toB, v_ofB, v_not, v_and, v_or, v_if, v_chain, v_ixL, v_part, v_tupL, v_l2, v_yes, v_mNil, v_mDat, v_mOwn, v_divmod, v_asL, v_asT, v_asB, v_asI, v_add, v_sub, v_neg, v_lt, v_le, v_gt, v_ge, v_isB, v_notB, v_isN, v_notN, v_isNi, v_isNn, bS, lineOk0, dIx_l, dIx_t, cLen_l, cLen_t, asSeq_l, asSeq_t, wipeD, setM, List.getElem?_cons_zero, List.getElem?_cons_succ, List.set_cons_zero, List.set_cons_succ, if_true, if_false, ite_true, ite_false, Bool.false_eq_true, Bool.not_true, Bool.not_false, dEq_int, Int.ofNat_inj]
        by_cases hpj : p = j
        · simp only [v_var, v_own, v_varOf, v_ownOf, v_c, v_1, v_2, v_nil, v_cons, v_call, v_tup, v_lst, v_toL, v_ofL, v_toB, v_ofB, v_not, v_and, v_or, v_if, v_chain, v_ixL, v_part, v_tupL, v_l2, v_yes, v_mNil, v_mDat, v_mOwn, v_divmod, v_asL, v_asT, v_asB, v_asI, v_add, v_sub, v_neg, v_lt, v_le, v_gt, v_ge, v_isB, v_notB, v_isN, v_notN, v_isNi, v_isNn, bS, lineOk0, dIx_l, dIx_t, cLen_l, cLen_t, asSeq_l, asSeq_t, wipeD, setM, List.getElem?_cons_zero, List.getElem?_cons_succ, List.set_cons_zero, List.set_cons_succ, if_true, if_false, ite_true, ite_false, Bool.false_eq_true, Bool.not_true, Bool.not_false, hpj, decide_true]; rfl
        · simp only [v_var, v_own, v_varOf, v_ownOf, v_c, v_1, v_2, v_nil, v_cons, v_call, v_tup, v_lst, v_toL, v_ofL, v_toB, v_ofB, v_not, v_and, v_or, v_if, v_chain, v_ixL, v_part, v_tupL, v_l2, v_yes, v_mNil, v_mDat, v_mOwn, v_divmod, v_asL, v_asT, v_asB, v_asI, v_add, v_sub, v_neg, v_lt, v_le, v_gt, v_ge, v_isB, v_notB, v_isN, v_notN, v_isNi, v_isNn, bS, lineOk0, dIx_l, dIx_t, cLen_l, cLen_t, asSeq_l, asSeq_t, wipeD, setM, List.getElem?_cons_zero, List.getElem?_cons_succ, List.set_cons_zero, List.set_cons_succ, if_true, if_false, ite_true, ite_false, Bool.false_eq_true, Bool.not_true, Bool.not_false, hpj, decide_false]; rfl), bS]
      unfold pat unit
      rw [nums_mapN]), bS]))]
  simp only [setM, List.set_cons_succ, List.set_cons_zero]
  have hc : eLc [5] (e1 asSeq (eVar 2)) (hName 5) eYes (eCall m_stays (eCons (eVar 0) (eCons (eVar 5) eNil))) [.dat (prog ps), .dat (.int (n : Int)), .dat (.list ((List.range n).map fun j => pat (unit n j))), .bot, .bot, .bot] = some ((List.range n).map fun j => PyData.bool (stays n ps (unit n j))) :=
    lc_map (xs := List.range n) (fun j => pat (unit n j)) _ (by rw [List.length_range]; omega) (by simp only [v_var, v_own, v_varOf, v_ownOf, v_c, v_1, v_2, v_nil, v_cons, v_call, v_tup, v_lst, v_toL, v_ofL, v_toB, v_ofB, v_not, v_and, v_or, v_if, v_chain, v_ixL, v_part, v_tupL, v_l2, v_yes, v_mNil, v_mDat, v_mOwn, v_divmod, v_asL, v_asT, v_asB, v_asI, v_add, v_sub, v_neg, v_lt, v_le, v_gt, v_ge, v_isB, v_notB, v_isN, v_notN, v_isNi, v_isNn, bS, lineOk0, dIx_l, dIx_t, cLen_l, cLen_t, asSeq_l, asSeq_t, wipeD, setM, List.getElem?_cons_zero, List.getElem?_cons_succ, List.set_cons_zero, List.set_cons_succ, if_true, if_false, ite_true, ite_false, Bool.false_eq_true, Bool.not_true, Bool.not_false]) fun j hj => by
      simp only [v_var, v_own, v_varOf, v_ownOf, v_c, v_1, v_2, v_nil, v_cons, v_call, v_tup, v_lst, v_toL, v_ofL, v_toB, v_ofB, v_not, v_and, v_or, v_if, v_chain, v_ixL, v_part, v_tupL, v_l2, v_yes, v_mNil, v_mDat, v_mOwn, v_divmod, v_asL, v_asT, v_asB, v_asI, v_add, v_sub, v_neg, v_lt, v_le, v_gt, v_ge, v_isB, v_notB, v_isN, v_notN, v_isNi, v_isNn, bS, lineOk0, dIx_l, dIx_t, cLen_l, cLen_t, asSeq_l, asSeq_t, wipeD, setM, List.getElem?_cons_zero, List.getElem?_cons_succ, List.set_cons_zero, List.set_cons_succ, if_true, if_false, ite_true, ite_false, Bool.false_eq_true, Bool.not_true, Bool.not_false, stays_ok hn h (unit_R n j)]
  rw [sRet_ok (d := .bool ((List.range n).all fun j => stays n ps (unit n j))) (by simp only [v_var, v_own, v_varOf, v_ownOf, v_c, v_1, v_2, v_nil, v_cons, v_call, v_tup, v_lst, v_toL, v_ofL, v_toB, v_ofB, v_not, v_and, v_or, v_if, v_chain, v_ixL, v_part, v_tupL, v_l2, v_yes, v_mNil, v_mDat, v_mOwn, v_divmod, v_asL, v_asT, v_asB, v_asI, v_add, v_sub, v_neg, v_lt, v_le, v_gt, v_ge, v_isB, v_notB, v_isN, v_notN, v_isNi, v_isNn, bS, lineOk0, dIx_l, dIx_t, cLen_l, cLen_t, asSeq_l, asSeq_t, wipeD, setM, List.getElem?_cons_zero, List.getElem?_cons_succ, List.set_cons_zero, List.set_cons_succ, if_true, if_false, ite_true, ite_false, Bool.false_eq_true, Bool.not_true, Bool.not_false, hc, cAll_map])]
  rfl
theorem stays_iff {n : Nat} (hn : Sz n) (ps : List (List Nat)) (rs : List Nat) : stays n ps rs = true ↔ ∀ t, t < n → w n ps rs t (T n ps) = w n ps rs 0 (T n ps) := by
  have h3 := hn.ge
  unfold stays
  rw [decide_eq_true_iff, spr_zero (W_ne hn ps rs _)]
  constructor
  · rintro ⟨c, hc⟩ t ht
    rw [hc _ (List.mem_map.mpr ⟨t, List.mem_range.mpr ht, rfl⟩), hc _ (List.mem_map.mpr ⟨0, List.mem_range.mpr (by omega), rfl⟩)]
  · intro H
    refine ⟨w n ps rs 0 (T n ps), fun x hx => ?_⟩
    obtain ⟨t, ht, rfl⟩ := List.mem_map.mp hx
    exact H t (List.mem_range.mp ht)
/-- the wear is made of the visits to each place -/
theorem sum_one : ∀ (m p : Nat) (f : Nat → Nat), p < m → ((List.range m).map fun j => f j * (if p = j then 1 else 0)).sum = f p
  | 0, p, f, h => absurd h (Nat.not_lt_zero _)
  | m + 1, p, f, h => by
    rw [List.range_succ, List.map_append, List.sum_append]
    by_cases hp : p = m
    · subst hp
      have : ((List.range p).map fun j => f j * (if p = j then 1 else 0)).sum = 0 := by
        have e : (List.range p).map (fun j => f j * (if p = j then 1 else 0)) = (List.range p).map fun _ => 0 := List.map_congr_left fun j hj => by
          rw [if_neg (by have := List.mem_range.mp hj; omega), Nat.mul_zero]
        rw [e, map_const (List.range p) 0]
        clear e
        generalize (List.range p).length = q
        induction q with
        | zero => rfl
        | succ q ih => rw [List.range_succ, List.map_append, List.sum_append, ih]; rfl
      rw [this]
      simp
    · rw [sum_one m p f (by omega)]
      simp [hp]
theorem sum_mul_add (f g h : Nat → Nat) : ∀ l : List Nat, (l.map fun j => f j * (g j + h j)).sum = (l.map fun j => f j * g j).sum + (l.map fun j => f j * h j).sum
  | [] => rfl
  | x :: l => by
    rw [List.map_cons, List.map_cons, List.map_cons, List.sum_cons, List.sum_cons, List.sum_cons, sum_mul_add f g h l, Nat.mul_add]
    omega
theorem w_lin {n : Nat} {ps : List (List Nat)} (h : isPr n ps) (rs : List Nat) {t : Nat} (ht : t < n) : ∀ k, w n ps rs t k = ((List.range n).map fun j => rs.getD j 0 * w n ps (unit n j) t k).sum
  | 0 => by
    have e : (List.range n).map (fun j => rs.getD j 0 * w n ps (unit n j) t 0) = (List.range n).map fun _ => 0 := List.map_congr_left fun j _ => Nat.mul_zero _
    rw [e, map_const (List.range n) 0]
    show 0 = _
    generalize (List.range n).length = q
    induction q with
    | zero => rfl
    | succ q ih => rw [List.range_succ, List.map_append, List.sum_append, ← ih]; rfl
  | k + 1 => by
    have hp := getD_lt (P_P h k) ht
    have e : (List.range n).map (fun j => rs.getD j 0 * w n ps (unit n j) t (k + 1)) = (List.range n).map fun j => rs.getD j 0 * (w n ps (unit n j) t k + (if (P n ps k).getD t 0 = j then 1 else 0)) := List.map_congr_left fun j _ => by
      show rs.getD j 0 * (w n ps (unit n j) t k + (unit n j).getD ((P n ps k).getD t 0) 0) = _
      rw [unit_get j hp]
    rw [e, sum_mul_add, ← w_lin h rs ht k, sum_one n _ _ hp]
    rfl
/-- fair for each place: fair for all rates -/
theorem fair_all {n : Nat} (hn : Sz n) {ps : List (List Nat)} (h : isPr n ps) (hf : ((List.range n).all fun j => stays n ps (unit n j)) = true) (rs : List Nat) : stays n ps rs = true := by
  rw [stays_iff hn]
  intro t ht
  have h3 := hn.ge
  rw [w_lin h rs ht, w_lin h rs (t := 0) (by omega)]
  congr 1
  refine List.map_congr_left fun j hj => ?_
  rw [(stays_iff hn ps (unit n j)).mp (List.all_eq_true.mp hf j hj) t ht]
end DL

namespace DL
open PySem PySem.Spec L2
def goes (n : Nat) (ps : List (List Nat)) : Bool := (List.range n).all fun t => decide ((sset ((List.range (T n ps)).map fun k => (P n ps k).getD t 0)).length = n)
theorem w_sum (n : Nat) (ps : List (List Nat)) (rs : List Nat) (t : Nat) : ∀ k, w n ps rs t k = ((List.range k).map fun i => rs.getD ((P n ps i).getD t 0) 0).sum
  | 0 => rfl
  | k + 1 => by
    rw [List.range_succ, List.map_append, List.sum_append, ← w_sum n ps rs t k]
    show w n ps rs t k + _ = _
    simp
theorem sumN_perm {a b : List Nat} (h : a.Perm b) : a.sum = b.sum := by
  induction h with
  | nil => rfl
  | cons x _ ih => rw [List.sum_cons, List.sum_cons, ih]
  | swap x y l => rw [List.sum_cons, List.sum_cons, List.sum_cons, List.sum_cons]; omega
  | trans _ _ h1 h2 => exact h1.trans h2
/-- one pattern that goes everywhere: after as many intervals as places all wear is equal -/
theorem goes_even {n : Nat} (hn : Sz n) {ps : List (List Nat)} (h : isPr n ps) (h1 : ps.length = 1) (hg : goes n ps = true) (rs : List Nat) : Ev n ps rs n = true := by
  match ps, h1 with
  | [p], _ =>
    have hp : isP n p := h.all p List.mem_cons_self
    have hl := look (f := fun n p => !goes n [p] || (List.range n).all fun t => ((List.range n).map fun k => (P n [p] k).getD t 0).isPerm (List.range n)) (by decide +kernel) hn hp
    rw [hg, Bool.not_true, Bool.false_or] at hl
    unfold Ev
    rw [decide_eq_true_iff, spr_zero (W_ne hn [p] rs n)]
    refine ⟨((List.range n).map fun x => rs.getD x 0).sum, fun x hx => ?_⟩
    obtain ⟨t, ht, rfl⟩ := List.mem_map.mp hx
    have hpm := List.isPerm_iff.mp (List.all_eq_true.mp hl t ht)
    rw [w_sum]
    have e : (List.range n).map (fun i => rs.getD ((P n [p] i).getD t 0) 0) = ((List.range n).map fun k => (P n [p] k).getD t 0).map fun x => rs.getD x 0 := by rw [List.map_map]; rfl
    rw [e]
    exact sumN_perm (hpm.map _)
/-! ### counting in a list -/
theorem count_ok (l : List Nat) (v : Nat) : dCount (.list (nums l)) (.int (v : Int)) = some (.int ((l.countP fun x => decide (x = v) : Nat) : Int)) := by
  unfold dCount asFlat
  rw [asSeq_l, bS, if_pos (flat_nums l), bS, if_pos (show flatD (.int (v : Int)) = true from rfl)]
  congr 3
  unfold nums
  rw [List.countP_map]
  congr 1
  funext x
  show PyData.eqv (.int (x : Int)) (.int (v : Int)) = _
  rw [eqv_int]
  exact decide_eq_decide.mpr Int.ofNat_inj
theorem count_w {n : Nat} {ps : List (List Nat)} (h : isPr n ps) {t : Nat} (ht : t < n) (j : Nat) : ∀ k, (((List.range k).map fun i => (P n ps i).getD t 0).countP fun x => decide (x = j)) = w n ps (unit n j) t k
  | 0 => rfl
  | k + 1 => by
    rw [List.range_succ, List.map_append, List.countP_append, count_w h ht j k]
    show _ = w n ps (unit n j) t k + (unit n j).getD ((P n ps k).getD t 0) 0
    rw [unit_get j (getD_lt (P_P h k) ht)]
    congr 1
    by_cases e : (P n ps k).getD t 0 = j
    · simp only [List.map_cons, List.map_nil, List.countP_cons, List.countP_nil, e, decide_true, if_true]
    · simp only [List.map_cons, List.map_nil, List.countP_cons, List.countP_nil, e, decide_false, if_false, Bool.false_eq_true]
end DL

namespace DL
open PySem PySem.Spec L2
/-! ### runs in a row without end -/
/-- the run that ends at k -/
def rl (f : Nat → Nat) : Nat → Nat
  | 0 => 1
  | k + 1 => if f (k + 1) = f k then rl f k + 1 else 1
/-- the longest of the first ones -/
def best (f : Nat → Nat) : Nat → Nat
  | 0 => 0
  | k + 1 => max (best f k) (rl f k)
/-- how often v stands among the first ones -/
def Cn (f : Nat → Nat) (v : Nat) : Nat → Nat
  | 0 => 0
  | k + 1 => Cn f v k + (if f k = v then 1 else 0)
section
variable {f : Nat → Nat} {T : Nat}
theorem rl_pos : ∀ k, 1 ≤ rl f k
  | 0 => Nat.le_refl _
  | k + 1 => by unfold rl; split <;> omega
theorem rl_le : ∀ k, rl f k ≤ k + 1
  | 0 => Nat.le_refl _
  | k + 1 => by
    have := rl_le k
    unfold rl; split <;> omega
theorem rl_back : ∀ k j, k + 1 - rl f k ≤ j → j ≤ k → f j = f k
  | 0, j, _, h2 => by
    have : j = 0 := by omega
    rw [this]
  | k + 1, j, h1, h2 => by
    by_cases e : j = k + 1
    · rw [e]
    · unfold rl at h1
      split at h1
      · rename_i he
        rw [he]
        exact rl_back k j (by omega) (by omega)
      · omega
theorem Cn_le (v : Nat) : ∀ {a b}, a ≤ b → Cn f v a ≤ Cn f v b
  | a, 0, h => by
    have : a = 0 := by omega
    rw [this]; exact Nat.le_refl _
  | a, b + 1, h => by
    by_cases e : a = b + 1
    · rw [e]; exact Nat.le_refl _
    · have := Cn_le v (a := a) (b := b) (by omega)
      show _ ≤ Cn f v b + _
      omega
theorem Cn_rl : ∀ k, Cn f (f k) (k + 1) = Cn f (f k) (k + 1 - rl f k) + rl f k
  | 0 => by simp [Cn, rl]
  | k + 1 => by
    have ih := Cn_rl k
    show Cn f (f (k + 1)) (k + 1) + (if f (k + 1) = f (k + 1) then 1 else 0) = _
    rw [if_pos rfl]
    by_cases he : f (k + 1) = f k
    · have e : rl f (k + 1) = rl f k + 1 := by show (if f (k + 1) = f k then rl f k + 1 else 1) = _; rw [if_pos he]
      have e2 : k + 1 + 1 - (rl f k + 1) = k + 1 - rl f k := by omega
      rw [e, e2, he, ih]; omega
    · have e : rl f (k + 1) = 1 := by show (if f (k + 1) = f k then rl f k + 1 else 1) = _; rw [if_neg he]
      rw [e]; rfl
theorem Cn_per (hp : ∀ k, f (k + T) = f k) (v : Nat) : ∀ m, Cn f v (m + T) = Cn f v m + Cn f v T
  | 0 => by rw [Nat.zero_add]; show _ = 0 + _; omega
  | m + 1 => by
    have e : m + 1 + T = (m + T) + 1 := by omega
    rw [e]
    show Cn f v (m + T) + (if f (m + T) = v then 1 else 0) = Cn f v m + (if f m = v then 1 else 0) + _
    rw [Cn_per hp v m, hp m]; omega
theorem Cn_times (hp : ∀ k, f (k + T) = f k) (v : Nat) : ∀ m, Cn f v (m * T) = m * Cn f v T
  | 0 => by rw [Nat.zero_mul, Nat.zero_mul]; rfl
  | m + 1 => by rw [Nat.add_mul, Nat.one_mul, Cn_per hp, Cn_times hp v m, Nat.add_mul, Nat.one_mul]
theorem per_many (hp : ∀ k, f (k + T) = f k) (k : Nat) : ∀ m, f (k + m * T) = f k
  | 0 => by rw [Nat.zero_mul, Nat.add_zero]
  | m + 1 => by
    have e : k + (m + 1) * T = (k + m * T) + T := by rw [Nat.add_mul, Nat.one_mul, Nat.add_assoc]
    rw [e, hp, per_many hp k m]
theorem per_mod (hp : ∀ k, f (k + T) = f k) (k : Nat) : f (k % T) = f k := by
  have e : k % T + k / T * T = k := by rw [Nat.mul_comm]; exact Nat.mod_add_div k _
  rw [← per_many hp (k % T) (k / T), e]
theorem best_ge : ∀ {M k}, k < M → rl f k ≤ best f M
  | M + 1, k, h => by
    show _ ≤ max (best f M) (rl f M)
    by_cases e : k = M
    · rw [e]; exact Nat.le_max_right _ _
    · exact Nat.le_trans (best_ge (by omega)) (Nat.le_max_left _ _)
theorem best_mem : ∀ {M}, 0 < M → ∃ k, k < M ∧ best f M = rl f k
  | 1, _ => ⟨0, by omega, by show max 0 (rl f 0) = _; exact Nat.max_eq_right (Nat.zero_le _)⟩
  | M + 2, _ => by
    obtain ⟨k, hk, e⟩ := best_mem (M := M + 1) (by omega)
    by_cases h : best f (M + 1) ≤ rl f (M + 1)
    · exact ⟨M + 1, by omega, by show max _ _ = _; exact Nat.max_eq_right h⟩
    · exact ⟨k, by omega, by show max _ _ = _; rw [Nat.max_eq_left (by omega), e]⟩
theorem rl_lt (hp : ∀ k, f (k + T) = f k) (hT : 0 < T) (hc : ∃ k, f k ≠ f 0) (k : Nat) : rl f k < T := by
  by_cases hlt : rl f k < T
  · exact hlt
  exfalso
  have hle := rl_le (f := f) k
  have key : ∀ i, f (k + 1 - T + i) = f k := by
    intro i
    induction i using Nat.strongRecOn with
    | ind i ih =>
      by_cases hi : i < T
      · exact rl_back k _ (by omega) (by omega)
      · have := ih (i - T) (by omega)
        rw [← this]
        have e : k + 1 - T + i = (k + 1 - T + (i - T)) + T := by omega
        rw [e, hp]
  have all : ∀ i, f i = f k := fun i => by
    have h1 := per_many hp i (k + 1 - T)
    have h2 : k + 1 - T ≤ (k + 1 - T) * T := Nat.le_mul_of_pos_right _ hT
    have e : i + (k + 1 - T) * T = (k + 1 - T) + (i + (k + 1 - T) * T - (k + 1 - T)) := by omega
    rw [← h1, e]
    exact key _
  obtain ⟨i, hi⟩ := hc
  exact hi ((all i).trans (all 0).symm)
theorem rl_count (hp : ∀ k, f (k + T) = f k) (hT : 0 < T) (hc : ∃ k, f k ≠ f 0) (k : Nat) : rl f k ≤ Cn f (f k) T := by
  have h1 := rl_lt hp hT hc k
  have h2 := rl_le (f := f) k
  have h3 := Cn_rl (f := f) k
  have h4 := Cn_le (f := f) (f k) (a := k + 1) (b := (k + 1 - rl f k) + T) (by omega)
  have h5 := Cn_per hp (f k) (k + 1 - rl f k)
  omega
theorem brk (hp : ∀ k, f (k + T) = f k) (hT : 0 < T) (hc : ∃ k, f k ≠ f 0) : ∃ j, j < T ∧ f (j + 1) ≠ f j := by
  by_cases h : ∃ j, j < T ∧ f (j + 1) ≠ f j
  · exact h
  exfalso
  have a : ∀ j, j ≤ T → f j = f 0 := by
    intro j
    induction j with
    | zero => intro _; rfl
    | succ j ih =>
      intro hj
      rw [← ih (by omega)]
      by_cases e : f (j + 1) = f j
      · exact e
      · exact absurd ⟨j, by omega, e⟩ h
  obtain ⟨k, hk⟩ := hc
  refine hk ?_
  rw [← per_mod hp k]
  exact a _ (Nat.le_of_lt (Nat.mod_lt _ hT))
theorem rl_shift (hp : ∀ k, f (k + T) = f k) {j : Nat} (hj : f (j + 1) ≠ f j) : ∀ i, rl f (j + 1 + i + T) = rl f (j + 1 + i)
  | 0 => by
    have e : j + 1 + 0 + T = (j + T) + 1 := by omega
    have e2 : f (j + T + 1) = f (j + 1) := by
      have : j + T + 1 = (j + 1) + T := by omega
      rw [this, hp]
    have h : f (j + T + 1) ≠ f (j + T) := by rw [hp j, e2]; exact hj
    rw [e]
    show (if f (j + T + 1) = f (j + T) then _ else 1) = if f (j + 1) = f j then _ else 1
    rw [if_neg h, if_neg hj]
  | i + 1 => by
    have ih := rl_shift hp hj i
    have e : j + 1 + (i + 1) + T = (j + 1 + i + T) + 1 := by omega
    have e3 : j + 1 + (i + 1) = (j + 1 + i) + 1 := by omega
    have e2 : f (j + 1 + i + T + 1) = f (j + 1 + i + 1) := by
      have : j + 1 + i + T + 1 = (j + 1 + i + 1) + T := by omega
      rw [this, hp]
    rw [e, e3]
    show (if f (j + 1 + i + T + 1) = f (j + 1 + i + T) then rl f (j + 1 + i + T) + 1 else 1) = if f (j + 1 + i + 1) = f (j + 1 + i) then rl f (j + 1 + i) + 1 else 1
    rw [e2, hp, ih]
/-- further than two turns nothing longer comes -/
theorem best_far (hp : ∀ k, f (k + T) = f k) (hT : 0 < T) (hc : ∃ k, f k ≠ f 0) : ∀ m, best f (2 * T + m) = best f (2 * T)
  | 0 => rfl
  | m + 1 => by
    obtain ⟨j, hj, h⟩ := brk hp hT hc
    show max (best f (2 * T + m)) (rl f (2 * T + m)) = _
    have e : 2 * T + m = j + 1 + (T + m - (j + 1)) + T := by omega
    have h1 : rl f (2 * T + m) = rl f (j + 1 + (T + m - (j + 1))) := by rw [e]; exact rl_shift hp h _
    have h2 : rl f (j + 1 + (T + m - (j + 1))) ≤ best f (2 * T + m) := best_ge (by omega)
    rw [h1, Nat.max_eq_left h2]
    exact best_far hp hT hc m
theorem best_same (hp : ∀ k, f (k + T) = f k) (hT : 0 < T) (hc : ∃ k, f k ≠ f 0) {M : Nat} (hM : 2 * T ≤ M) : best f M = best f (2 * T) := by
  have e : M = 2 * T + (M - 2 * T) := by omega
  rw [e]
  exact best_far hp hT hc _
theorem best_one (hp : ∀ k, f (k + T) = f k) (hT : 0 < T) : best f (2 * T) = 1 ↔ ∀ k, k < T → f k ≠ f (k + 1) := by
  constructor
  · intro h k hk e
    have h1 := best_ge (f := f) (M := 2 * T) (k := k + 1) (by omega)
    have h2 : rl f (k + 1) = rl f k + 1 := by
      show (if f (k + 1) = f k then _ else _) = _
      rw [if_pos e.symm]
    have := rl_pos (f := f) k
    omega
  · intro h
    obtain ⟨k, hk, e⟩ := best_mem (f := f) (M := 2 * T) (by omega)
    rw [e]
    cases k with
    | zero => rfl
    | succ k =>
      show (if f (k + 1) = f k then _ else 1) = 1
      rw [if_neg]
      intro h2
      refine h (k % T) (Nat.mod_lt _ hT) ?_
      have e1 : f (k % T + 1) = f (k + 1) := by
        have h3 := per_many hp (k % T + 1) (k / T)
        have h4 : k % T + 1 + k / T * T = k + 1 := by
          have : k % T + k / T * T = k := by rw [Nat.mul_comm]; exact Nat.mod_add_div k _
          omega
        rw [h4] at h3
        exact h3.symm
      rw [e1, per_mod hp, h2]
theorem best_pos (hT : 0 < T) : 1 ≤ best f (2 * T) := Nat.le_trans (rl_pos 0) (best_ge (by omega))
theorem best_lt (hp : ∀ k, f (k + T) = f k) (hT : 0 < T) (hc : ∃ k, f k ≠ f 0) : best f (2 * T) < T := by
  obtain ⟨k, _, e⟩ := best_mem (f := f) (M := 2 * T) (by omega)
  rw [e]
  exact rl_lt hp hT hc k
end
end DL

namespace DL
open PySem PySem.Spec L2
/-! ### the spare -/
/-- the tyre at the place pl in the interval k (from 0 on) -/
def sp (n : Nat) (ps : List (List Nat)) (pl k : Nat) : Nat := (row n ps k).getD pl 0
theorem sp_lt {n : Nat} (hn : Sz n) {ps : List (List Nat)} (h : isPr n ps) {pl : Nat} (hp : pl < n) (k : Nat) : sp n ps pl k < n := getD_lt (row_P hn h k) hp
theorem inv_at {n : Nat} (hn : Sz n) {p : List Nat} (hp : isP n p) {x t : Nat} (hx : x < n) (ht : t < n) : (inv p).getD x 0 = t ↔ p.getD t 0 = x := by
  obtain ⟨h1, h2, h3, _⟩ := inv_facts hn hp
  constructor
  · intro e
    have h4 := comb_get p (p := inv p) (x := x) (by rw [h1.len]; exact hx)
    rw [h3, idp_get hx, e] at h4
    exact h4.symm
  · intro e
    have h4 := comb_get (inv p) (p := p) (x := t) (by rw [hp.len]; exact ht)
    rw [h2, idp_get ht, e] at h4
    exact h4.symm
theorem sp_iff {n : Nat} (hn : Sz n) {ps : List (List Nat)} (h : isPr n ps) {pl t : Nat} (hp : pl < n) (ht : t < n) (k : Nat) : sp n ps pl k = t ↔ (P n ps k).getD t 0 = pl := inv_at hn (P_P h k) hp ht
theorem sp_per {n : Nat} (hn : Sz n) {ps : List (List Nat)} (h : isPr n ps) (pl k : Nat) : sp n ps pl (k + T n ps) = sp n ps pl k := by
  unfold sp row
  rw [P_turn hn h]
theorem Cn_w {n : Nat} (hn : Sz n) {ps : List (List Nat)} (h : isPr n ps) {pl t : Nat} (hp : pl < n) (ht : t < n) : ∀ k, Cn (sp n ps pl) t k = w n ps (unit n pl) t k
  | 0 => rfl
  | k + 1 => by
    show Cn (sp n ps pl) t k + (if sp n ps pl k = t then 1 else 0) = w n ps (unit n pl) t k + (unit n pl).getD ((P n ps k).getD t 0) 0
    rw [Cn_w hn h hp ht k, unit_get pl (getD_lt (P_P h k) ht)]
    congr 1
    by_cases e : sp n ps pl k = t
    · rw [if_pos e, if_pos ((sp_iff hn h hp ht k).mp e)]
    · rw [if_neg e, if_neg fun z => e ((sp_iff hn h hp ht k).mpr z)]
theorem countP_Cn (f : Nat → Nat) (v : Nat) : ∀ k, (((List.range k).map f).countP fun x => decide (x = v)) = Cn f v k
  | 0 => rfl
  | k + 1 => by
    rw [List.range_succ, List.map_append, List.countP_append, countP_Cn f v k]
    show _ = Cn f v k + (if f k = v then 1 else 0)
    congr 1
    by_cases e : f k = v
    · simp [e]
    · simp [e]
/-- in how many intervals of a turn each tyre is the spare -/
def cs (n : Nat) (ps : List (List Nat)) (pl : Nat) : List Nat := W n ps (unit n pl) (T n ps)
theorem cs_get {n : Nat} (ps : List (List Nat)) (pl : Nat) {t : Nat} (ht : t < n) : (cs n ps pl).getD t 0 = w n ps (unit n pl) t (T n ps) := W_get _ _ _ ht
theorem cs_len (n : Nat) (ps : List (List Nat)) (pl : Nat) : (cs n ps pl).length = n := W_len _ _ _ _
theorem idx_pat {n : Nat} (hn : Sz n) {p : List Nat} (hp : isP n p) {x : Nat} (hx : x < n) : dIndex (pat p) (.int (x : Int)) = some (.int (((inv p).getD x 0 : Nat) : Int)) := by
  have h := look (f := fun n p => (List.range n).all fun x => sameO (dIndex (pat p) (.int (x : Int))) (.int (((inv p).getD x 0 : Nat) : Int))) (by decide +kernel) hn hp
  exact sameO_eq (List.all_eq_true.mp h x (List.mem_range.mpr hx))
def sps (n : Nat) (ps : List (List Nat)) (pl m : Nat) : List Nat := (List.range m).map (sp n ps pl)
theorem sps_len (n : Nat) (ps : List (List Nat)) (pl m : Nat) : (sps n ps pl m).length = m := by unfold sps; rw [List.length_map, List.length_range]
theorem check_place_ok {n : Nat} (hn : Sz n) {ps : List (List Nat)} (h : isPr n ps) {pl : Nat} (hp : pl < n) : m_check_place [prog ps, .int (pl : Int)] = some .none := by
  unfold m_check_place
  rw [run_eq]
  show outO (b_check_place [.dat (prog ps), .dat (.int (pl : Int))]) = _
  unfold b_check_place
  rw [sSeq_nx (sExpr_ok (d := .none) (by simp only [v_var, v_own, v_varOf, v_ownOf, v_c, v_1, v_2, v_nil, v_cons, v_call, v_tup, v_lst, v_toL, v_ofL, v_toB, v_ofB, v_not, v_and, v_or, v_if, v_chain, v_ixL, v_part, v_tupL, v_l2, v_yes, v_mNil, v_mDat, v_mOwn, v_divmod, v_asL, v_asT, v_asB, v_asI, v_add, v_sub, v_neg, v_lt, v_le, v_gt, v_ge, v_isB, v_notB, v_isN, v_notN, v_isNi, v_isNn, bS, lineOk0, dIx_l, dIx_t, cLen_l, cLen_t, asSeq_l, asSeq_t, wipeD, setM, List.getElem?_cons_zero, List.getElem?_cons_succ, List.set_cons_zero, List.set_cons_succ, if_true, if_false, ite_true, ite_false, Bool.false_eq_true, Bool.not_true, Bool.not_false, check_program_ok hn h])), sIfN_f (by simp only [v_var, v_own, v_varOf, v_ownOf, v_c, v_1, v_2, v_nil, v_cons, v_call, v_tup, v_lst, v_toL, v_ofL, v_toB, v_ofB, v_not, v_and, v_or, v_if, v_chain, v_ixL, v_part, v_tupL, v_l2, v_yes, v_mNil, v_mDat, v_mOwn, v_divmod, v_asL, v_asT, v_asB, v_asI, v_add, v_sub, v_neg, v_lt, v_le, v_gt, v_ge, v_isB, v_notB, v_isN, v_notN, v_isNi, v_isNn, bS, lineOk0, dIx_l, dIx_t, cLen_l, cLen_t, asSeq_l, asSeq_t, wipeD, setM, List.getElem?_cons_zero, List.getElem?_cons_succ, List.set_cons_zero, List.set_cons_succ, if_true, if_false, ite_true, ite_false, Bool.false_eq_true, Bool.not_true, Bool.not_false, dIx_prog0 h.pos, cLen_pat (nth_P h h.pos), is_int_in (i := (pl : Int)) (a := 0) (b := (n : Int) - 1) (by omega) (by omega)])]
  rfl
theorem find_spares_ok {n : Nat} (hn : Sz n) {ps : List (List Nat)} (h : isPr n ps) {pl : Nat} (hp : pl < n) : m_find_spares [prog ps, .int (pl : Int)] = some (.list (nums (sps n ps pl (T n ps)))) := by
  unfold m_find_spares
  rw [run_eq]
  show outO (b_find_spares [.dat (prog ps), .dat (.int (pl : Int)), .bot]) = _
  unfold b_find_spares
  have hT := T_le hn h
  have hc : eLc [2] (e1 asSeq (eCall m_full_turn (eCons (eVar 0) eNil))) (hName 2) eYes (e2 dIndex (eVar 2) (eVar 1)) [.dat (prog ps), .dat (.int (pl : Int)), .bot] = some ((List.range (T n ps)).map fun k => PyData.int ((sp n ps pl k : Nat) : Int)) :=
    lc_map (fun k => pat (P n ps k)) _ (by rw [List.length_range]; omega) (by simp only [v_var, v_own, v_varOf, v_ownOf, v_c, v_1, v_2, v_nil, v_cons, v_call, v_tup, v_lst, v_toL, v_ofL, v_toB, v_ofB, v_not, v_and, v_or, v_if, v_chain, v_ixL, v_part, v_tupL, v_l2, v_yes, v_mNil, v_mDat, v_mOwn, v_divmod, v_asL, v_asT, v_asB, v_asI, v_add, v_sub, v_neg, v_lt, v_le, v_gt, v_ge, v_isB, v_notB, v_isN, v_notN, v_isNi, v_isNn, bS, lineOk0, dIx_l, dIx_t, cLen_l, cLen_t, asSeq_l, asSeq_t, wipeD, setM, List.getElem?_cons_zero, List.getElem?_cons_succ, List.set_cons_zero, List.set_cons_succ, if_true, if_false, ite_true, ite_false, Bool.false_eq_true, Bool.not_true, Bool.not_false, full_turn_ok hn h]; rfl) fun k hk => by
      simp only [v_var, v_own, v_varOf, v_ownOf, v_c, v_1, v_2, v_nil, v_cons, v_call, v_tup, v_lst, v_toL, v_ofL, v_toB, v_ofB, v_not, v_and, v_or, v_if, v_chain, v_ixL, v_part, v_tupL, v_l2, v_yes, v_mNil, v_mDat, v_mOwn, v_divmod, v_asL, v_asT, v_asB, v_asI, v_add, v_sub, v_neg, v_lt, v_le, v_gt, v_ge, v_isB, v_notB, v_isN, v_notN, v_isNi, v_isNn, bS, lineOk0, dIx_l, dIx_t, cLen_l, cLen_t, asSeq_l, asSeq_t, wipeD, setM, List.getElem?_cons_zero, List.getElem?_cons_succ, List.set_cons_zero, List.set_cons_succ, if_true, if_false, ite_true, ite_false, Bool.false_eq_true, Bool.not_true, Bool.not_false, idx_pat hn (P_P h k) hp]
      rfl
  rw [sRet_ok (d := .list (nums (sps n ps pl (T n ps)))) (by
    simp only [v_var, v_own, v_varOf, v_ownOf, v_c, v_1, v_2, v_nil, v_cons, v_call, v_tup, v_lst, v_toL, v_ofL, v_toB, v_ofB, v_not, v_and, v_or, v_if, v_chain, v_ixL, v_part, v_tupL, v_l2, v_yes, v_mNil, v_mDat, v_mOwn, v_divmod, v_asL, v_asT, v_asB, v_asI, v_add, v_sub, v_neg, v_lt, v_le, v_gt, v_ge, v_isB, v_notB, v_isN, v_notN, v_isNi, v_isNn, bS, lineOk0, dIx_l, dIx_t, cLen_l, cLen_t, asSeq_l, asSeq_t, wipeD, setM, List.getElem?_cons_zero, List.getElem?_cons_succ, List.set_cons_zero, List.set_cons_succ, if_true, if_false, ite_true, ite_false, Bool.false_eq_true, Bool.not_true, Bool.not_false, hc]
    unfold sps
    rw [nums_mapN])]
  rfl
theorem find_counts_ok {n : Nat} (hn : Sz n) {ps : List (List Nat)} (h : isPr n ps) {pl : Nat} (hp : pl < n) : m_find_counts [prog ps, .int (pl : Int)] = some (.list (nums (cs n ps pl))) := by
  unfold m_find_counts
  rw [run_eq]
  show outO (b_find_counts [.dat (prog ps), .dat (.int (pl : Int)), .bot, .bot]) = _
  unfold b_find_counts
  have h5 := hn.le
  rw [sSeq_nx (sSet_ok (d := .list (nums (sps n ps pl (T n ps)))) (by simp only [v_var, v_own, v_varOf, v_ownOf, v_c, v_1, v_2, v_nil, v_cons, v_call, v_tup, v_lst, v_toL, v_ofL, v_toB, v_ofB, v_not, v_and, v_or, v_if, v_chain, v_ixL, v_part, v_tupL, v_l2, v_yes, v_mNil, v_mDat, v_mOwn, v_divmod, v_asL, v_asT, v_asB, v_asI, v_add, v_sub, v_neg, v_lt, v_le, v_gt, v_ge, v_isB, v_notB, v_isN, v_notN, v_isNi, v_isNn, bS, lineOk0, dIx_l, dIx_t, cLen_l, cLen_t, asSeq_l, asSeq_t, wipeD, setM, List.getElem?_cons_zero, List.getElem?_cons_succ, List.set_cons_zero, List.set_cons_succ, if_true, if_false, ite_true, ite_false, Bool.false_eq_true, Bool.not_true, Bool.not_false, find_spares_ok hn h hp]))]
  simp only [setM, List.set_cons_succ, List.set_cons_zero]
  have hc : eLc [3] (e1 rng1 (eCall cLen (eCons (e2 dIx (eVar 0) (eC (.int 0))) eNil))) (hName 3) eYes (e2 dCount (eVar 2) (eVar 3)) [.dat (prog ps), .dat (.int (pl : Int)), .dat (.list (nums (sps n ps pl (T n ps)))), .bot] = some ((List.range n).map fun t => PyData.int ((w n ps (unit n pl) t (T n ps) : Nat) : Int)) :=
    lc_rg (by omega) (by simp only [v_var, v_own, v_varOf, v_ownOf, v_c, v_1, v_2, v_nil, v_cons, v_call, v_tup, v_lst, v_toL, v_ofL, v_toB, v_ofB, v_not, v_and, v_or, v_if, v_chain, v_ixL, v_part, v_tupL, v_l2, v_yes, v_mNil, v_mDat, v_mOwn, v_divmod, v_asL, v_asT, v_asB, v_asI, v_add, v_sub, v_neg, v_lt, v_le, v_gt, v_ge, v_isB, v_notB, v_isN, v_notN, v_isNi, v_isNn, bS, lineOk0, dIx_l, dIx_t, cLen_l, cLen_t, asSeq_l, asSeq_t, wipeD, setM, List.getElem?_cons_zero, List.getElem?_cons_succ, List.set_cons_zero, List.set_cons_succ, if_true, if_false, ite_true, ite_false, Bool.false_eq_true, Bool.not_true, Bool.not_false, dIx_prog0 h.pos, cLen_pat (nth_P h h.pos)]) _ fun t ht => by
      simp only [v_var, v_own, v_varOf, v_ownOf, v_c, v_1, v_2, v_nil, v_cons, v_call, v_tup, v_lst, v_toL, v_ofL, v_toB, v_ofB, v_not, v_and, v_or, v_if, v_chain, v_ixL, v_part, v_tupL, v_l2, v_yes, v_mNil, v_mDat, v_mOwn, v_divmod, v_asL, v_asT, v_asB, v_asI, v_add, v_sub, v_neg, v_lt, v_le, v_gt, v_ge, v_isB, v_notB, v_isN, v_notN, v_isNi, v_isNn, bS, lineOk0, dIx_l, dIx_t, cLen_l, cLen_t, asSeq_l, asSeq_t, wipeD, setM, List.getElem?_cons_zero, List.getElem?_cons_succ, List.set_cons_zero, List.set_cons_succ, if_true, if_false, ite_true, ite_false, Bool.false_eq_true, Bool.not_true, Bool.not_false, count_ok]
      unfold sps
      rw [countP_Cn, Cn_w hn h hp ht]
  rw [sRet_ok (d := .list (nums (cs n ps pl))) (by
    simp only [v_var, v_own, v_varOf, v_ownOf, v_c, v_1, v_2, v_nil, v_cons, v_call, v_tup, v_lst, v_toL, v_ofL, v_toB, v_ofB, v_not, v_and, v_or, v_if, v_chain, v_ixL, v_part, v_tupL, v_l2, v_yes, v_mNil, v_mDat, v_mOwn, v_divmod, v_asL, v_asT, v_asB, v_asI, v_add, v_sub, v_neg, v_lt, v_le, v_gt, v_ge, v_isB, v_notB, v_isN, v_notN, v_isNi, v_isNn, bS, lineOk0, dIx_l, dIx_t, cLen_l, cLen_t, asSeq_l, asSeq_t, wipeD, setM, List.getElem?_cons_zero, List.getElem?_cons_succ, List.set_cons_zero, List.set_cons_succ, if_true, if_false, ite_true, ite_false, Bool.false_eq_true, Bool.not_true, Bool.not_false, hc]
    unfold cs
    rw [W_nums])]
  rfl
theorem spare_counts_ok {n : Nat} (hn : Sz n) {ps : List (List Nat)} (h : isPr n ps) {pl : Nat} (hp : pl < n) : m_spare_counts [prog ps, .int (pl : Int)] = some (.list (nums (cs n ps pl))) := by
  unfold m_spare_counts
  rw [run_eq]
  show outO (b_spare_counts [.dat (prog ps), .dat (.int (pl : Int))]) = _
  unfold b_spare_counts
  rw [sSeq_nx (sExpr_ok (d := .none) (by simp only [v_var, v_own, v_varOf, v_ownOf, v_c, v_1, v_2, v_nil, v_cons, v_call, v_tup, v_lst, v_toL, v_ofL, v_toB, v_ofB, v_not, v_and, v_or, v_if, v_chain, v_ixL, v_part, v_tupL, v_l2, v_yes, v_mNil, v_mDat, v_mOwn, v_divmod, v_asL, v_asT, v_asB, v_asI, v_add, v_sub, v_neg, v_lt, v_le, v_gt, v_ge, v_isB, v_notB, v_isN, v_notN, v_isNi, v_isNn, bS, lineOk0, dIx_l, dIx_t, cLen_l, cLen_t, asSeq_l, asSeq_t, wipeD, setM, List.getElem?_cons_zero, List.getElem?_cons_succ, List.set_cons_zero, List.set_cons_succ, if_true, if_false, ite_true, ite_false, Bool.false_eq_true, Bool.not_true, Bool.not_false, check_place_ok hn h hp])), sRet_ok (by simp only [v_var, v_own, v_varOf, v_ownOf, v_c, v_1, v_2, v_nil, v_cons, v_call, v_tup, v_lst, v_toL, v_ofL, v_toB, v_ofB, v_not, v_and, v_or, v_if, v_chain, v_ixL, v_part, v_tupL, v_l2, v_yes, v_mNil, v_mDat, v_mOwn, v_divmod, v_asL, v_asT, v_asB, v_asI, v_add, v_sub, v_neg, v_lt, v_le, v_gt, v_ge, v_isB, v_notB, v_isN, v_notN, v_isNi, v_isNn, bS, lineOk0, dIx_l, dIx_t, cLen_l, cLen_t, asSeq_l, asSeq_t, wipeD, setM, List.getElem?_cons_zero, List.getElem?_cons_succ, List.set_cons_zero, List.set_cons_succ, if_true, if_false, ite_true, ite_false, Bool.false_eq_true, Bool.not_true, Bool.not_false, find_counts_ok hn h hp]; rfl)]
  rfl
/-! ### a comprehension over enumerate -/
theorem enum_nums {n : Nat} {l : List Nat} (hl : l.length = n) : enumL (nums l) = (List.range n).map fun (i : Nat) => PyData.tuple [.int (i : Int), .int ((l.getD i 0 : Nat) : Int)] := by
  unfold enumL
  apply List.ext_getElem?
  intro i
  rw [List.getElem?_zipWith, List.getElem?_map, nums_length, hl]
  by_cases hi : i < n
  · rw [getR l i (by omega), List.getElem?_range hi]; rfl
  · rw [List.getElem?_eq_none (l := List.range n) (by rw [List.length_range]; omega)]; rfl
theorem lc_enum {vs : List Nat} {a b n : Nat} {z : DE → Option (List D)} {tt : DE → Option Bool} {el : DE → Option D} {ρ : DE} {l : List Nat} (hn : n ≤ 1000) (hl : l.length = n) (hz : z ρ = some (enumL (nums l))) (p : Nat → Bool) (f : Nat → D)
    (H : ∀ i, i < n → tt (((wipeD ρ vs).set a (.dat (.int (i : Int)))).set b (.dat (.int ((l.getD i 0 : Nat) : Int)))) = some (p i) ∧ el (((wipeD ρ vs).set a (.dat (.int (i : Int)))).set b (.dat (.int ((l.getD i 0 : Nat) : Int)))) = some (f i)) :
    eLc vs z (hTup (hsCons (hName a) (hsCons (hName b) hsNil))) tt el ρ = some (((List.range n).filter p).map f) := by
  rw [v_lc, hz, bS, enum_nums hl, lineOk_ok (by rw [List.length_map, List.length_range]; omega), bS]
  exact compD_filter p (fun (i : Nat) => PyData.tuple [.int (i : Int), .int ((l.getD i 0 : Nat) : Int)]) f fun i hi => ⟨_, rfl, H i (List.mem_range.mp hi)⟩
/-- a comprehension over range(n) with a test -/
theorem lc_rgf {vs : List Nat} {j n : Nat} {g : DE → Option D} {tt : DE → Option Bool} {el : DE → Option D} {ρ : DE} (hn : n ≤ 1000000) (hg : g ρ = some (.int (n : Int))) (p : Nat → Bool) (f : Nat → D)
    (H : ∀ i, i < n → tt ((wipeD ρ vs).set j (.dat (.int ((i : Nat) : Int)))) = some (p i) ∧ el ((wipeD ρ vs).set j (.dat (.int ((i : Nat) : Int)))) = some (f i)) :
    eLc vs (e1 rng1 g) (hName j) tt el ρ = some (((List.range n).filter p).map f) := by
  rw [v_lc, e1_ok hg (rng1_ok n hn), bS, lineOk_ok (by rw [nums_length, List.length_range]; omega), bS]
  unfold nums
  exact compD_filter p (fun (i : Nat) => PyData.int ((i : Nat) : Int)) f fun i hi => ⟨_, rfl, H i (List.mem_range.mp hi)⟩
/-- the tyres that are never the spare -/
def nv (n : Nat) (ps : List (List Nat)) (pl : Nat) : List Nat := (List.range n).filter fun t => decide ((cs n ps pl).getD t 0 = 0)
theorem never_spare_ok {n : Nat} (hn : Sz n) {ps : List (List Nat)} (h : isPr n ps) {pl : Nat} (hp : pl < n) : m_never_spare [prog ps, .int (pl : Int)] = some (.list (nums (nv n ps pl))) := by
  unfold m_never_spare
  rw [run_eq]
  show outO (b_never_spare [.dat (prog ps), .dat (.int (pl : Int)), .bot, .bot]) = _
  unfold b_never_spare
  have h5 := hn.le
  have hc : eLc [2, 3] (e1 dEnum (eCall m_find_counts (eCons (eVar 0) (eCons (eVar 1) eNil)))) (hTup (hsCons (hName 2) (hsCons (hName 3) hsNil))) (e2 dEq (eVar 3) (eC (.int 0))) (eVar 2) [.dat (prog ps), .dat (.int (pl : Int)), .bot, .bot] = some (nums (nv n ps pl)) := by
    unfold nv
    refine lc_enum (l := cs n ps pl) (by omega) (cs_len n ps pl) (by simp only [v_var, v_own, v_varOf, v_ownOf, v_c, v_1, v_2, v_nil, v_cons, v_call, v_tup, v_lst, v_toL, v_ofL, v_toB, v_ofB, v_not, v_and, v_or, v_if, v_chain, v_ixL, v_part, v_tupL, v_l2, v_yes, v_mNil, v_mDat, v_mOwn, v_divmod, v_asL, v_asT, v_asB, v_asI, v_add, v_sub, v_neg, v_lt, v_le, v_gt, v_ge, v_isB, v_notB, v_isN, v_notN, v_isNi, v_isNn, bS, lineOk0, dIx_l, dIx_t, cLen_l, cLen_t, asSeq_l, asSeq_t, wipeD, setM, List.getElem?_cons_zero, List.getElem?_cons_succ, List.set_cons_zero, List.set_cons_succ, if_true, if_false, ite_true, ite_false, Bool.false_eq_true, Bool.not_true, Bool.not_false, find_counts_ok hn h hp]; rfl) _ (fun i => PyData.int (i : Int)) fun i hi => ⟨?_, ?_⟩
    · simp only [v_var, v_own, v_varOf, v_ownOf, v_c, v_1, v_2, v_nil, v_cons, v_call, v_tup, v_lst, v_toL, v_ofL, v_toB, v_ofB, v_not, v_and, v_or, v_if, v_chain, v_ixL, v_part, v_tupL, v_l2, v_yes, v_mNil, v_mDat, v_mOwn, v_divmod, v_asL, v_asT, v_asB, v_asI, v_add, v_sub, v_neg, v_lt, v_le, v_gt, v_ge, v_isB, v_notB, v_isN, v_notN, v_isNi, v_isNn, bS, lineOk0, dIx_l, dIx_t, cLen_l, cLen_t, asSeq_l, asSeq_t, wipeD, setM, List.getElem?_cons_zero, List.getElem?_cons_succ, List.set_cons_zero, List.set_cons_succ, if_true, if_false, ite_true, ite_false, Bool.false_eq_true, Bool.not_true, Bool.not_false, wipeD, List.set_cons_zero, List.set_cons_succ, dEq_int]
      congr 1
      exact decide_eq_decide.mpr (by omega)
    · simp only [v_var, v_own, v_varOf, v_ownOf, v_c, v_1, v_2, v_nil, v_cons, v_call, v_tup, v_lst, v_toL, v_ofL, v_toB, v_ofB, v_not, v_and, v_or, v_if, v_chain, v_ixL, v_part, v_tupL, v_l2, v_yes, v_mNil, v_mDat, v_mOwn, v_divmod, v_asL, v_asT, v_asB, v_asI, v_add, v_sub, v_neg, v_lt, v_le, v_gt, v_ge, v_isB, v_notB, v_isN, v_notN, v_isNi, v_isNn, bS, lineOk0, dIx_l, dIx_t, cLen_l, cLen_t, asSeq_l, asSeq_t, wipeD, setM, List.getElem?_cons_zero, List.getElem?_cons_succ, List.set_cons_zero, List.set_cons_succ, if_true, if_false, ite_true, ite_false, Bool.false_eq_true, Bool.not_true, Bool.not_false, wipeD, List.set_cons_zero, List.set_cons_succ]
  rw [sSeq_nx (sExpr_ok (d := .none) (by simp only [v_var, v_own, v_varOf, v_ownOf, v_c, v_1, v_2, v_nil, v_cons, v_call, v_tup, v_lst, v_toL, v_ofL, v_toB, v_ofB, v_not, v_and, v_or, v_if, v_chain, v_ixL, v_part, v_tupL, v_l2, v_yes, v_mNil, v_mDat, v_mOwn, v_divmod, v_asL, v_asT, v_asB, v_asI, v_add, v_sub, v_neg, v_lt, v_le, v_gt, v_ge, v_isB, v_notB, v_isN, v_notN, v_isNi, v_isNn, bS, lineOk0, dIx_l, dIx_t, cLen_l, cLen_t, asSeq_l, asSeq_t, wipeD, setM, List.getElem?_cons_zero, List.getElem?_cons_succ, List.set_cons_zero, List.set_cons_succ, if_true, if_false, ite_true, ite_false, Bool.false_eq_true, Bool.not_true, Bool.not_false, check_place_ok hn h hp])), sRet_ok (by simp only [v_var, v_own, v_varOf, v_ownOf, v_c, v_1, v_2, v_nil, v_cons, v_call, v_tup, v_lst, v_toL, v_ofL, v_toB, v_ofB, v_not, v_and, v_or, v_if, v_chain, v_ixL, v_part, v_tupL, v_l2, v_yes, v_mNil, v_mDat, v_mOwn, v_divmod, v_asL, v_asT, v_asB, v_asI, v_add, v_sub, v_neg, v_lt, v_le, v_gt, v_ge, v_isB, v_notB, v_isN, v_notN, v_isNi, v_isNn, bS, lineOk0, dIx_l, dIx_t, cLen_l, cLen_t, asSeq_l, asSeq_t, wipeD, setM, List.getElem?_cons_zero, List.getElem?_cons_succ, List.set_cons_zero, List.set_cons_succ, if_true, if_false, ite_true, ite_false, Bool.false_eq_true, Bool.not_true, Bool.not_false, hc]; rfl)]
  rfl
/-! ### len(set(..)) == 1 -/
theorem dist_one {l : List Int} (h : l ≠ []) : (dist l).length = 1 ↔ ∃ c, ∀ x ∈ l, x = c := by
  have nd := nodup_dist l
  constructor
  · intro e
    match hd : dist l, e with
    | [a], _ => exact ⟨a, fun x hx => by
        have := mem_dist.mpr hx
        rw [hd] at this
        exact List.mem_singleton.mp this⟩
  · rintro ⟨c, hc⟩
    match hd : dist l with
    | [] =>
      cases l with
      | nil => exact absurd rfl h
      | cons x xs =>
        have := mem_dist.mpr (List.mem_cons_self (a := x) (l := xs))
        rw [hd] at this
        cases this
    | [a] => rfl
    | a :: b :: r =>
      have ha := hc a (mem_dist.mp (by rw [hd]; exact List.mem_cons_self))
      have hb := hc b (mem_dist.mp (by rw [hd]; exact List.mem_cons_of_mem _ List.mem_cons_self))
      rw [hd] at nd
      have := (List.nodup_cons.mp nd).1
      rw [ha, hb] at this
      exact absurd List.mem_cons_self this
theorem dLenSet_nums {l : List Nat} (hl : l.length < 4000) : dLenSet (.list (nums l)) = some (.int (((dist (l.map fun (x : Nat) => (x : Int))).length : Nat) : Int)) := by
  unfold dLenSet asSet
  rw [asSeq_l, bS, asIs_nums, bS, if_pos (by rw [List.length_map]; omega), bS]
theorem lenSet_one {l : List Nat} (h : l ≠ []) : (dist (l.map fun (x : Nat) => (x : Int))).length = 1 ↔ ∃ c, ∀ x ∈ l, x = c := by
  rw [dist_one (fun z => h (List.map_eq_nil_iff.mp z))]
  constructor
  · rintro ⟨c, hc⟩
    cases l with
    | nil => exact absurd rfl h
    | cons a r =>
      refine ⟨a, fun x hx => ?_⟩
      have h1 := hc (x : Int) (List.mem_map.mpr ⟨x, hx, rfl⟩)
      have h2 := hc (a : Int) (List.mem_map.mpr ⟨a, List.mem_cons_self, rfl⟩)
      omega
  · rintro ⟨c, hc⟩
    refine ⟨(c : Int), fun x hx => ?_⟩
    obtain ⟨y, hy, rfl⟩ := List.mem_map.mp hx
    rw [hc y hy]
theorem lenSet_dec {l : List Nat} (h : l ≠ []) (hl : l.length < 4000) (b : Bool) (hb : b = true ↔ ∃ c, ∀ x ∈ l, x = c) : ((dLenSet (.list (nums l))).bind fun x => dEq x (.int 1)) = some b := by
  rw [dLenSet_nums hl, bS, dEq_int]
  congr 1
  have e := lenSet_one h
  cases b with
  | true => exact decide_eq_true (by have := e.mpr (hb.mp rfl); omega)
  | false => exact decide_eq_false (fun z => by have := hb.mpr (e.mp (by omega)); cases this)
theorem is_shared_ok {n : Nat} (hn : Sz n) {ps : List (List Nat)} (h : isPr n ps) {pl : Nat} (hp : pl < n) : m_is_shared [prog ps, .int (pl : Int)] = some (.bool (stays n ps (unit n pl))) := by
  unfold m_is_shared
  rw [run_eq]
  show outO (b_is_shared [.dat (prog ps), .dat (.int (pl : Int))]) = _
  unfold b_is_shared
  have h5 := hn.le
  have hd := lenSet_dec (l := cs n ps pl) (W_ne hn _ _ _) (by rw [cs_len]; omega) (stays n ps (unit n pl)) (by
    unfold stays
    rw [decide_eq_true_eq, spr_zero (W_ne hn _ _ _)]
    rfl)
  rw [sSeq_nx (sExpr_ok (d := .none) (by simp only [v_var, v_own, v_varOf, v_ownOf, v_c, v_1, v_2, v_nil, v_cons, v_call, v_tup, v_lst, v_toL, v_ofL, v_toB, v_ofB, v_not, v_and, v_or, v_if, v_chain, v_ixL, v_part, v_tupL, v_l2, v_yes, v_mNil, v_mDat, v_mOwn, v_divmod, v_asL, v_asT, v_asB, v_asI, v_add, v_sub, v_neg, v_lt, v_le, v_gt, v_ge, v_isB, v_notB, v_isN, v_notN, v_isNi, v_isNn, bS, lineOk0, dIx_l, dIx_t, cLen_l, cLen_t, asSeq_l, asSeq_t, wipeD, setM, List.getElem?_cons_zero, List.getElem?_cons_succ, List.set_cons_zero, List.set_cons_succ, if_true, if_false, ite_true, ite_false, Bool.false_eq_true, Bool.not_true, Bool.not_false, check_place_ok hn h hp])), sRet_ok (by
    simp only [v_var, v_own, v_varOf, v_ownOf, v_c, v_1, v_2, v_nil, v_cons, v_call, v_tup, v_lst, v_toL, v_ofL, v_toB, v_ofB, v_not, v_and, v_or, v_if, v_chain, v_ixL, v_part, v_tupL, v_l2, v_yes, v_mNil, v_mDat, v_mOwn, v_divmod, v_asL, v_asT, v_asB, v_asI, v_add, v_sub, v_neg, v_lt, v_le, v_gt, v_ge, v_isB, v_notB, v_isN, v_notN, v_isNi, v_isNn, bS, lineOk0, dIx_l, dIx_t, cLen_l, cLen_t, asSeq_l, asSeq_t, wipeD, setM, List.getElem?_cons_zero, List.getElem?_cons_succ, List.set_cons_zero, List.set_cons_succ, if_true, if_false, ite_true, ite_false, Bool.false_eq_true, Bool.not_true, Bool.not_false, find_counts_ok hn h hp]
    rw [hd, bS])]
  rfl
end DL

namespace DL
open PySem PySem.Spec L2
theorem eqv_in (i : Int) : PyData.eqv (.int i) .none = false := by simp [PyData.eqv]
theorem dEq_in (i : Int) : dEq (.int i) .none = some false := by
  rw [dEq_sh (Sh.int (k := 0) i) (Sh.none (k := 0)), eqv_in]
theorem eqv_ni (i : Int) : PyData.eqv .none (.int i) = false := by simp [PyData.eqv]
theorem dEq_ni (i : Int) : dEq .none (.int i) = some false := by
  rw [dEq_sh (Sh.none (k := 0)) (Sh.int (k := 0) i), eqv_ni]
theorem dEq_nn : dEq .none .none = some true := dEq_self (Sh.none (k := 0))
theorem cMax2_of (a b : Int) : cMax2 [.int a, .int b] = some (.int (if b > a then b else a)) := rfl
theorem cMax2N (a b : Nat) : cMax2 [.int (a : Int), .int (b : Int)] = some (.int ((max a b : Nat) : Int)) := by
  rw [cMax2_of]
  congr 2
  by_cases h : b > a
  · rw [if_pos (by omega), Nat.max_eq_right (by omega)]
  · rw [if_neg (by omega), Nat.max_eq_left (by omega)]
/-- the same tyre is the spare for ever -/
def isC (n : Nat) (ps : List (List Nat)) (pl : Nat) : Bool := (List.range (T n ps)).all fun k => decide (sp n ps pl k = sp n ps pl 0)
theorem isC_iff {n : Nat} (hn : Sz n) {ps : List (List Nat)} (h : isPr n ps) (pl : Nat) : isC n ps pl = true ↔ ∀ k, sp n ps pl k = sp n ps pl 0 := by
  unfold isC
  rw [List.all_eq_true]
  constructor
  · intro H k
    rw [← per_mod (sp_per hn h pl) k]
    have := H (k % T n ps) (List.mem_range.mpr (Nat.mod_lt _ (T_pos hn h)))
    exact of_decide_eq_true this
  · intro H k _
    exact decide_eq_true (H k)
theorem isC_not {n : Nat} (hn : Sz n) {ps : List (List Nat)} (h : isPr n ps) (pl : Nat) (hc : isC n ps pl = false) : ∃ k, sp n ps pl k ≠ sp n ps pl 0 := by
  by_cases e : ∃ k, sp n ps pl k ≠ sp n ps pl 0
  · exact e
  · have : isC n ps pl = true := (isC_iff hn h pl).mpr fun k => Classical.byContradiction fun z => e ⟨k, z⟩
    rw [this] at hc
    cases hc
theorem sps_ne {n : Nat} (ps : List (List Nat)) (pl : Nat) {m : Nat} (hm : 0 < m) : sps n ps pl m ≠ [] := fun z => by
  have := sps_len n ps pl m
  rw [z] at this
  simp at this
  omega
theorem sps_const {n : Nat} (hn : Sz n) {ps : List (List Nat)} (h : isPr n ps) (pl : Nat) : isC n ps pl = true ↔ ∃ c, ∀ x ∈ sps n ps pl (T n ps), x = c := by
  have hT := T_pos hn h
  unfold isC sps
  rw [List.all_eq_true]
  constructor
  · intro H
    refine ⟨sp n ps pl 0, fun x hx => ?_⟩
    obtain ⟨k, hk, rfl⟩ := List.mem_map.mp hx
    exact of_decide_eq_true (H k hk)
  · rintro ⟨c, hc⟩ k hk
    refine decide_eq_true ?_
    rw [hc _ (List.mem_map_of_mem hk), hc _ (List.mem_map_of_mem (List.mem_range.mpr hT))]
theorem sps_double {n : Nat} (hn : Sz n) {ps : List (List Nat)} (h : isPr n ps) (pl : Nat) : nums (sps n ps pl (T n ps)) ++ nums (sps n ps pl (T n ps)) = nums (sps n ps pl (2 * T n ps)) := by
  rw [← nums_app]
  congr 1
  unfold sps
  have e : 2 * T n ps = T n ps + T n ps := by omega
  rw [e, List.range_add, List.map_append, List.map_map]
  congr 1
  refine List.map_congr_left fun k _ => ?_
  show sp n ps pl k = sp n ps pl (T n ps + k)
  rw [Nat.add_comm, sp_per hn h]
def bLong : DS := (sSeq (sSet 4 (eIf (e2 dEq (eVar 6) (eVar 5)) (e2 dAdd (eVar 4) (eC (.int 1))) (eC (.int 1))))
  (sPar [3, 5] (mDat (eCall cMax2 (eCons (eVar 3) (eCons (eVar 4) eNil))) (mDat (eVar 6) mNil))))
theorem sForS {g : DE → Option D} {h : D → DE → Option DE} {b : DS} {ρ : DE} {l : List Nat} (hg : g ρ = some (.list (nums l))) : sFor (e1 asSeq g) h b ρ = forD h b (nums l) ρ :=
  sFor_ok (e1_ok hg (asSeq_l _))
theorem long_loop (f : Nat → Nat) (M : Nat) (a b c z : DV) : ∃ x4 x5 x6 : DV, forD (hName 6) bLong (nums ((List.range M).map f)) [a, b, c, .dat (.int 0), .dat (.int 0), .dat .none, z] = .nx [a, b, c, .dat (.int ((best f M : Nat) : Int)), x4, x5, x6] := by
  obtain ⟨ρ', h2, h3⟩ := for_inv (h := hName 6) (b := bLong) (fun i ρ => ∃ z : DV, (i = 0 ∧ ρ = [a, b, c, .dat (.int 0), .dat (.int 0), .dat .none, z]) ∨ ∃ j, i = j + 1 ∧ ρ = [a, b, c, .dat (.int ((best f (j + 1) : Nat) : Int)), .dat (.int ((rl f j : Nat) : Int)), .dat (.int ((f j : Nat) : Int)), z])
    (ds := nums ((List.range M).map f)) (k := 0) (ρ := [a, b, c, .dat (.int 0), .dat (.int 0), .dat .none, z]) ⟨z, .inl ⟨rfl, rfl⟩⟩
    (fun i d ρ hd ⟨z, hz⟩ => by
      have hd2 : i < M ∧ d = .int ((f i : Nat) : Int) := by
        rw [nums_get, List.getElem?_map] at hd
        by_cases hi : i < M
        · rw [List.getElem?_range hi] at hd
          cases hd
          exact ⟨hi, rfl⟩
        · rw [List.getElem?_eq_none (by rw [List.length_range]; omega)] at hd
          cases hd
      obtain ⟨hi, rfl⟩ := hd2
      rw [Nat.zero_add] at hz ⊢
      refine ⟨_, [a, b, c, .dat (.int ((best f (i + 1) : Nat) : Int)), .dat (.int ((rl f i : Nat) : Int)), .dat (.int ((f i : Nat) : Int)), .dat (.int ((f i : Nat) : Int))], rfl, .inl ?_, _, .inr ⟨i, rfl, rfl⟩⟩
      unfold bLong
      rcases hz with ⟨rfl, rfl⟩ | ⟨j, rfl, rfl⟩
      · simp only [setM, List.set_cons_succ, List.set_cons_zero]
        rw [sSeq_nx (sSet_ok (d := .int ((rl f 0 : Nat) : Int)) (by simp only [v_var, v_own, v_varOf, v_ownOf, v_c, v_1, v_2, v_nil, v_cons, v_call, v_tup, v_lst, v_toL, v_ofL, v_toB, v_ofB, v_not, v_and, v_or, v_if, v_chain, v_ixL, v_part, v_tupL, v_l2, v_yes, v_mNil, v_mDat, v_mOwn, v_divmod, v_asL, v_asT, v_asB, v_asI, v_add, v_sub, v_neg, v_lt, v_le, v_gt, v_ge, v_isB, v_notB, v_isN, v_notN, v_isNi, v_isNn, bS, lineOk0, dIx_l, dIx_t, cLen_l, cLen_t, asSeq_l, asSeq_t, wipeD, setM, List.getElem?_cons_zero, List.getElem?_cons_succ, List.set_cons_zero, List.set_cons_succ, if_true, if_false, ite_true, ite_false, Bool.false_eq_true, Bool.not_true, Bool.not_false, dEq_in, Bool.false_eq_true, if_false]; rfl))]
        simp only [setM, List.set_cons_succ, List.set_cons_zero]
        rw [sPar_ok (xs := [.dat (.int ((best f 1 : Nat) : Int)), .dat (.int ((f 0 : Nat) : Int))]) (by
          have := cMax2N 0 (rl f 0)
          have e0 : cMax2 [.int 0, .int ((rl f 0 : Nat) : Int)] = some (.int ((best f 1 : Nat) : Int)) := this
          simp only [v_var, v_own, v_varOf, v_ownOf, v_c, v_1, v_2, v_nil, v_cons, v_call, v_tup, v_lst, v_toL, v_ofL, v_toB, v_ofB, v_not, v_and, v_or, v_if, v_chain, v_ixL, v_part, v_tupL, v_l2, v_yes, v_mNil, v_mDat, v_mOwn, v_divmod, v_asL, v_asT, v_asB, v_asI, v_add, v_sub, v_neg, v_lt, v_le, v_gt, v_ge, v_isB, v_notB, v_isN, v_notN, v_isNi, v_isNn, bS, lineOk0, dIx_l, dIx_t, cLen_l, cLen_t, asSeq_l, asSeq_t, wipeD, setM, List.getElem?_cons_zero, List.getElem?_cons_succ, List.set_cons_zero, List.set_cons_succ, if_true, if_false, ite_true, ite_false, Bool.false_eq_true, Bool.not_true, Bool.not_false, e0])]
        rfl
      · simp only [setM, List.set_cons_succ, List.set_cons_zero]
        have ad := addN (rl f j) 1
        have ad' : dAdd (.int ((rl f j : Nat) : Int)) (.int 1) = some (.int ((rl f j + 1 : Nat) : Int)) := ad
        rw [sSeq_nx (sSet_ok (d := .int ((rl f (j + 1) : Nat) : Int)) (by
          have er : rl f (j + 1) = if f (j + 1) = f j then rl f j + 1 else 1 := rfl
          by_cases e : f (j + 1) = f j
          · rw [er, if_pos e]
            simp only [v_var, v_own, v_varOf, v_ownOf, v_c, v_1, v_2, v_nil, v_cons, v_call, v_tup, v_lst, v_toL, v_ofL, v_toB, v_ofB, v_not, v_and, v_or, v_if, v_chain, v_ixL, v_part, v_tupL, v_l2, v_yes, v_mNil, v_mDat, v_mOwn, v_divmod, v_asL, v_asT, v_asB, v_asI, v_add, v_sub, v_neg, v_lt, v_le, v_gt, v_ge, v_isB, v_notB, v_isN, v_notN, v_isNi, v_isNn, bS, lineOk0, dIx_l, dIx_t, cLen_l, cLen_t, asSeq_l, asSeq_t, wipeD, setM, List.getElem?_cons_zero, List.getElem?_cons_succ, List.set_cons_zero, List.set_cons_succ, if_true, if_false, ite_true, ite_false, Bool.false_eq_true, Bool.not_true, Bool.not_false, dEq_int, e, decide_true, if_true, ad', - v_add]
          · rw [er, if_neg e]
            have e' : ¬ ((f (j + 1) : Nat) : Int) = ((f j : Nat) : Int) := by omega
            simp only [v_var, v_own, v_varOf, v_ownOf, v_c, v_1, v_2, v_nil, v_cons, v_call, v_tup, v_lst, v_toL, v_ofL, v_toB, v_ofB, v_not, v_and, v_or, v_if, v_chain, v_ixL, v_part, v_tupL, v_l2, v_yes, v_mNil, v_mDat, v_mOwn, v_divmod, v_asL, v_asT, v_asB, v_asI, v_add, v_sub, v_neg, v_lt, v_le, v_gt, v_ge, v_isB, v_notB, v_isN, v_notN, v_isNi, v_isNn, bS, lineOk0, dIx_l, dIx_t, cLen_l, cLen_t, asSeq_l, asSeq_t, wipeD, setM, List.getElem?_cons_zero, List.getElem?_cons_succ, List.set_cons_zero, List.set_cons_succ, if_true, if_false, ite_true, ite_false, Bool.false_eq_true, Bool.not_true, Bool.not_false, dEq_int, e', decide_false, Bool.false_eq_true, if_false]
            rfl))]
        simp only [setM, List.set_cons_succ, List.set_cons_zero]
        rw [sPar_ok (xs := [.dat (.int ((best f (j + 1 + 1) : Nat) : Int)), .dat (.int ((f (j + 1) : Nat) : Int))]) (by
          simp only [v_var, v_own, v_varOf, v_ownOf, v_c, v_1, v_2, v_nil, v_cons, v_call, v_tup, v_lst, v_toL, v_ofL, v_toB, v_ofB, v_not, v_and, v_or, v_if, v_chain, v_ixL, v_part, v_tupL, v_l2, v_yes, v_mNil, v_mDat, v_mOwn, v_divmod, v_asL, v_asT, v_asB, v_asI, v_add, v_sub, v_neg, v_lt, v_le, v_gt, v_ge, v_isB, v_notB, v_isN, v_notN, v_isNi, v_isNn, bS, lineOk0, dIx_l, dIx_t, cLen_l, cLen_t, asSeq_l, asSeq_t, wipeD, setM, List.getElem?_cons_zero, List.getElem?_cons_succ, List.set_cons_zero, List.set_cons_succ, if_true, if_false, ite_true, ite_false, Bool.false_eq_true, Bool.not_true, Bool.not_false, cMax2N]
          rfl)]
        rfl)
  rw [Nat.zero_add, nums_length, List.length_map, List.length_range] at h3
  obtain ⟨z', h3⟩ := h3
  rcases h3 with ⟨e, rfl⟩ | ⟨j, e, rfl⟩
  · subst e
    exact ⟨_, _, _, h2⟩
  · subst e
    exact ⟨_, _, _, h2⟩
/-- what longest_spare answers -/
def lng (n : Nat) (ps : List (List Nat)) (pl : Nat) : D := if isC n ps pl = true then .none else .int ((best (sp n ps pl) (2 * T n ps) : Nat) : Int)
theorem longest_spare_ok {n : Nat} (hn : Sz n) {ps : List (List Nat)} (h : isPr n ps) {pl : Nat} (hp : pl < n) : m_longest_spare [prog ps, .int (pl : Int)] = some (lng n ps pl) := by
  unfold m_longest_spare
  rw [run_eq]
  show outO (b_longest_spare [.dat (prog ps), .dat (.int (pl : Int)), .bot, .bot, .bot, .bot, .bot]) = _
  unfold b_longest_spare
  have hT := T_le hn h
  have hT0 := T_pos hn h
  rw [sSeq_nx (sExpr_ok (d := .none) (by simp only [v_var, v_own, v_varOf, v_ownOf, v_c, v_1, v_2, v_nil, v_cons, v_call, v_tup, v_lst, v_toL, v_ofL, v_toB, v_ofB, v_not, v_and, v_or, v_if, v_chain, v_ixL, v_part, v_tupL, v_l2, v_yes, v_mNil, v_mDat, v_mOwn, v_divmod, v_asL, v_asT, v_asB, v_asI, v_add, v_sub, v_neg, v_lt, v_le, v_gt, v_ge, v_isB, v_notB, v_isN, v_notN, v_isNi, v_isNn, bS, lineOk0, dIx_l, dIx_t, cLen_l, cLen_t, asSeq_l, asSeq_t, wipeD, setM, List.getElem?_cons_zero, List.getElem?_cons_succ, List.set_cons_zero, List.set_cons_succ, if_true, if_false, ite_true, ite_false, Bool.false_eq_true, Bool.not_true, Bool.not_false, check_place_ok hn h hp])), sSeq_nx (sSet_ok (d := .list (nums (sps n ps pl (T n ps)))) (by simp only [v_var, v_own, v_varOf, v_ownOf, v_c, v_1, v_2, v_nil, v_cons, v_call, v_tup, v_lst, v_toL, v_ofL, v_toB, v_ofB, v_not, v_and, v_or, v_if, v_chain, v_ixL, v_part, v_tupL, v_l2, v_yes, v_mNil, v_mDat, v_mOwn, v_divmod, v_asL, v_asT, v_asB, v_asI, v_add, v_sub, v_neg, v_lt, v_le, v_gt, v_ge, v_isB, v_notB, v_isN, v_notN, v_isNi, v_isNn, bS, lineOk0, dIx_l, dIx_t, cLen_l, cLen_t, asSeq_l, asSeq_t, wipeD, setM, List.getElem?_cons_zero, List.getElem?_cons_succ, List.set_cons_zero, List.set_cons_succ, if_true, if_false, ite_true, ite_false, Bool.false_eq_true, Bool.not_true, Bool.not_false, find_spares_ok hn h hp]))]
  simp only [setM, List.set_cons_succ, List.set_cons_zero]
  have hd := lenSet_dec (l := sps n ps pl (T n ps)) (sps_ne ps pl hT0) (by rw [sps_len]; omega) (isC n ps pl) (sps_const hn h pl)
  unfold lng
  cases hc : isC n ps pl with
  | true =>
    rw [hc] at hd
    rw [sSeq_ret (d := .none) ((sIf_t (by simp only [v_var, v_own, v_varOf, v_ownOf, v_c, v_1, v_2, v_nil, v_cons, v_call, v_tup, v_lst, v_toL, v_ofL, v_toB, v_ofB, v_not, v_and, v_or, v_if, v_chain, v_ixL, v_part, v_tupL, v_l2, v_yes, v_mNil, v_mDat, v_mOwn, v_divmod, v_asL, v_asT, v_asB, v_asI, v_add, v_sub, v_neg, v_lt, v_le, v_gt, v_ge, v_isB, v_notB, v_isN, v_notN, v_isNi, v_isNn, bS, lineOk0, dIx_l, dIx_t, cLen_l, cLen_t, asSeq_l, asSeq_t, wipeD, setM, List.getElem?_cons_zero, List.getElem?_cons_succ, List.set_cons_zero, List.set_cons_succ, if_true, if_false, ite_true, ite_false, Bool.false_eq_true, Bool.not_true, Bool.not_false, hd])).trans (sRet_ok (by simp only [v_var, v_own, v_varOf, v_ownOf, v_c, v_1, v_2, v_nil, v_cons, v_call, v_tup, v_lst, v_toL, v_ofL, v_toB, v_ofB, v_not, v_and, v_or, v_if, v_chain, v_ixL, v_part, v_tupL, v_l2, v_yes, v_mNil, v_mDat, v_mOwn, v_divmod, v_asL, v_asT, v_asB, v_asI, v_add, v_sub, v_neg, v_lt, v_le, v_gt, v_ge, v_isB, v_notB, v_isN, v_notN, v_isNi, v_isNn, bS, lineOk0, dIx_l, dIx_t, cLen_l, cLen_t, asSeq_l, asSeq_t, wipeD, setM, List.getElem?_cons_zero, List.getElem?_cons_succ, List.set_cons_zero, List.set_cons_succ, if_true, if_false, ite_true, ite_false, Bool.false_eq_true, Bool.not_true, Bool.not_false])))]
    rfl
  | false =>
    rw [hc] at hd
    rw [sSeq_nx (sIfN_f (by simp only [v_var, v_own, v_varOf, v_ownOf, v_c, v_1, v_2, v_nil, v_cons, v_call, v_tup, v_lst, v_toL, v_ofL, v_toB, v_ofB, v_not, v_and, v_or, v_if, v_chain, v_ixL, v_part, v_tupL, v_l2, v_yes, v_mNil, v_mDat, v_mOwn, v_divmod, v_asL, v_asT, v_asB, v_asI, v_add, v_sub, v_neg, v_lt, v_le, v_gt, v_ge, v_isB, v_notB, v_isN, v_notN, v_isNi, v_isNn, bS, lineOk0, dIx_l, dIx_t, cLen_l, cLen_t, asSeq_l, asSeq_t, wipeD, setM, List.getElem?_cons_zero, List.getElem?_cons_succ, List.set_cons_zero, List.set_cons_succ, if_true, if_false, ite_true, ite_false, Bool.false_eq_true, Bool.not_true, Bool.not_false, hd])), sSeq_nx (sPar_ok (xs := [.dat (.int 0), .dat (.int 0), .dat .none]) (by simp only [v_var, v_own, v_varOf, v_ownOf, v_c, v_1, v_2, v_nil, v_cons, v_call, v_tup, v_lst, v_toL, v_ofL, v_toB, v_ofB, v_not, v_and, v_or, v_if, v_chain, v_ixL, v_part, v_tupL, v_l2, v_yes, v_mNil, v_mDat, v_mOwn, v_divmod, v_asL, v_asT, v_asB, v_asI, v_add, v_sub, v_neg, v_lt, v_le, v_gt, v_ge, v_isB, v_notB, v_isN, v_notN, v_isNi, v_isNn, bS, lineOk0, dIx_l, dIx_t, cLen_l, cLen_t, asSeq_l, asSeq_t, wipeD, setM, List.getElem?_cons_zero, List.getElem?_cons_succ, List.set_cons_zero, List.set_cons_succ, if_true, if_false, ite_true, ite_false, Bool.false_eq_true, Bool.not_true, Bool.not_false]))]
    simp only [setM, List.set_cons_succ, List.set_cons_zero]
    have hcat : dAdd (.list (nums (sps n ps pl (T n ps)))) (.list (nums (sps n ps pl (T n ps)))) = some (.list (nums (sps n ps pl (2 * T n ps)))) := by
      rw [← sps_double hn h]
      show (if (nums (sps n ps pl (T n ps))).length + (nums (sps n ps pl (T n ps))).length ≤ 16777216 then some (PyData.list (nums (sps n ps pl (T n ps)) ++ nums (sps n ps pl (T n ps)))) else none) = _
      rw [if_pos]
      rw [nums_length, sps_len]
      omega
    obtain ⟨x4, x5, x6, hl⟩ := long_loop (sp n ps pl) (2 * T n ps) (.dat (prog ps)) (.dat (.int (pl : Int))) (.dat (.list (nums (sps n ps pl (T n ps))))) .bot
    have hf := (sForS (h := hName 6) (b := bLong) (g := e2 dAdd (eVar 2) (eVar 2)) (ρ := [.dat (prog ps), .dat (.int (pl : Int)), .dat (.list (nums (sps n ps pl (T n ps)))), .dat (.int 0), .dat (.int 0), .dat .none, .bot]) (l := sps n ps pl (2 * T n ps)) (by simp only [v_var, v_own, v_varOf, v_ownOf, v_c, v_1, v_2, v_nil, v_cons, v_call, v_tup, v_lst, v_toL, v_ofL, v_toB, v_ofB, v_not, v_and, v_or, v_if, v_chain, v_ixL, v_part, v_tupL, v_l2, v_yes, v_mNil, v_mDat, v_mOwn, v_divmod, v_asL, v_asT, v_asB, v_asI, v_add, v_sub, v_neg, v_lt, v_le, v_gt, v_ge, v_isB, v_notB, v_isN, v_notN, v_isNi, v_isNn, bS, lineOk0, dIx_l, dIx_t, cLen_l, cLen_t, asSeq_l, asSeq_t, wipeD, setM, List.getElem?_cons_zero, List.getElem?_cons_succ, List.set_cons_zero, List.set_cons_succ, if_true, if_false, ite_true, ite_false, Bool.false_eq_true, Bool.not_true, Bool.not_false, hcat])).trans hl
    unfold bLong at hf
    rw [sSeq_nx hf, sRet_ok (by simp only [v_var, v_own, v_varOf, v_ownOf, v_c, v_1, v_2, v_nil, v_cons, v_call, v_tup, v_lst, v_toL, v_ofL, v_toB, v_ofB, v_not, v_and, v_or, v_if, v_chain, v_ixL, v_part, v_tupL, v_l2, v_yes, v_mNil, v_mDat, v_mOwn, v_divmod, v_asL, v_asT, v_asB, v_asI, v_add, v_sub, v_neg, v_lt, v_le, v_gt, v_ge, v_isB, v_notB, v_isN, v_notN, v_isNi, v_isNn, bS, lineOk0, dIx_l, dIx_t, cLen_l, cLen_t, asSeq_l, asSeq_t, wipeD, setM, List.getElem?_cons_zero, List.getElem?_cons_succ, List.set_cons_zero, List.set_cons_succ, if_true, if_false, ite_true, ite_false, Bool.false_eq_true, Bool.not_true, Bool.not_false]; rfl)]
    rfl
end DL

namespace DL
open PySem PySem.Spec L2
/-! ### lists compared -/
theorem eqvL (p q : List Nat) : PyData.eqv (.list (nums p)) (.list (nums q)) = decide (p = q) := by
  simp only [PyData.eqv]
  exact eqvAll_nums p q
theorem dEqL (p q : List Nat) : dEq (.list (nums p)) (.list (nums q)) = some (decide (p = q)) := by rw [dEq_sh (sh_nlist p) (sh_nlist q), eqvL]
theorem dNeL (p q : List Nat) : dNe (.list (nums p)) (.list (nums q)) = some (!decide (p = q)) := by unfold dNe; rw [dEqL]; rfl
theorem dNeL_self (p : List Nat) : dNe (.list (nums p)) (.list (nums p)) = some false := dNe_self (sh_nlist p)
/-! ### membership in a sorted set -/
theorem sset_any (l : List Nat) (x : Nat) : ((sset l).any fun z => PyData.eqv z (.int (x : Int))) = decide (x ∈ l) := by
  have e : ((sset l).any fun z => PyData.eqv z (.int (x : Int))) = true ↔ x ∈ l := by
    unfold sset
    rw [List.any_eq_true]
    constructor
    · rintro ⟨z, hz, e⟩
      obtain ⟨i, hi, rfl⟩ := List.mem_map.mp hz
      rw [eqv_int] at e
      have e := of_decide_eq_true e
      subst e
      have := mem_dist.mp ((perm_isort _).mem_iff.mp hi)
      obtain ⟨y, hy, e2⟩ := List.mem_map.mp this
      have : y = x := by omega
      exact this ▸ hy
    · intro hx
      refine ⟨.int (x : Int), List.mem_map.mpr ⟨(x : Int), (perm_isort _).mem_iff.mpr (mem_dist.mpr (List.mem_map.mpr ⟨x, hx, rfl⟩)), rfl⟩, ?_⟩
      rw [eqv_int]
      exact decide_eq_true rfl
  by_cases h : x ∈ l
  · rw [e.mpr h, decide_eq_true h]
  · cases q : (sset l).any fun z => PyData.eqv z (.int (x : Int)) with
    | true => exact absurd (e.mp q) h
    | false => rw [decide_eq_false h]
theorem dNotIn_sset (l : List Nat) (x : Nat) : dNotIn (.int (x : Int)) (.list (sset l)) = some (!decide (x ∈ l)) := by
  have h1 : SeqAt.shaped (.int (x : Int)) = true := (Sh.int (k := 0) (x : Int)).ok
  have h2 : SeqAt.shaped (.list (sset l)) = true := (sh_sset l).ok
  unfold dNotIn dIn
  simp only [h1, h2, Bool.and_self, if_true]
  rw [bS, sset_any]
theorem sset_full {n : Nat} {l : List Nat} (h : ∀ x ∈ l, x < n) : (sset l).length = n ↔ ∀ x, x < n → x ∈ l := by
  have e1 : (sset l).length = (dist (l.map fun (x : Nat) => (x : Int))).length := by
    unfold sset
    rw [List.length_map]
    exact (perm_isort _).length_eq
  rw [e1]
  have nd := nodup_dist (l.map fun (x : Nat) => (x : Int))
  have sub : ∀ k ∈ dist (l.map fun (x : Nat) => (x : Int)), ∃ x, x ∈ l ∧ k = (x : Int) := fun k hk => by
    obtain ⟨x, hx, e⟩ := List.mem_map.mp (mem_dist.mp hk)
    exact ⟨x, hx, e.symm⟩
  constructor
  · intro he x hx
    by_cases hm : x ∈ l
    · exact hm
    exfalso
    have := len_sub (ys := ((List.range n).erase x).map fun (x : Nat) => (x : Int)) nd fun k hk => by
      obtain ⟨y, hy, rfl⟩ := sub k hk
      refine List.mem_map.mpr ⟨y, ?_, rfl⟩
      exact (List.mem_erase_of_ne (fun z => by subst z; exact hm hy)).mpr (List.mem_range.mpr (h y hy))
    rw [List.length_map, List.length_erase_of_mem (List.mem_range.mpr hx), List.length_range] at this
    omega
  · intro H
    have a := len_sub (ys := (List.range n).map fun (x : Nat) => (x : Int)) nd fun k hk => by
      obtain ⟨y, hy, rfl⟩ := sub k hk
      exact List.mem_map.mpr ⟨y, List.mem_range.mpr (h y hy), rfl⟩
    have ndr : ((List.range n).map fun (x : Nat) => (x : Int)).Nodup := by
      refine List.pairwise_map.mpr (List.nodup_range.imp fun hab e => hab ?_)
      omega
    have b := len_sub (ys := dist (l.map fun (x : Nat) => (x : Int))) ndr fun k hk => by
      obtain ⟨y, hy, rfl⟩ := List.mem_map.mp hk
      exact mem_dist.mpr (List.mem_map.mpr ⟨y, H y (List.mem_range.mp hy), rfl⟩)
    rw [List.length_map, List.length_range] at a b
    omega
/-! ### sums of the spare's counts -/
theorem sum_unit {n x : Nat} (hx : x < n) : sm ((List.range n).map fun pl => (unit n pl).getD x 0) = 1 := by
  have e := sum_one n x (fun _ => 1) hx
  have e2 : (List.range n).map (fun pl => (unit n pl).getD x 0) = (List.range n).map fun j => (fun _ => 1) j * (if x = j then 1 else 0) := by
    refine List.map_congr_left fun j _ => ?_
    rw [unit_get j hx]
    show _ = 1 * _
    rw [Nat.one_mul]
  have key : ∀ l : List Nat, sm l = ((l.sum : Nat) : Int) := by
    intro l
    induction l with
    | nil => rfl
    | cons a l ih =>
      show ((a :: l).map fun (x : Nat) => (x : Int)).sum = _
      rw [List.map_cons, List.sum_cons, List.sum_cons]
      unfold sm at ih
      rw [ih]
      omega
  rw [key, e2, e]
  rfl
theorem sm_add {n : Nat} (f g : Nat → Nat) : sm ((List.range n).map fun x => f x + g x) = sm ((List.range n).map f) + sm ((List.range n).map g) := by
  unfold sm
  rw [List.map_map, List.map_map, List.map_map]
  have := sum_add (fun x => ((f x : Nat) : Int)) (fun x => ((g x : Nat) : Int)) (List.range n)
  refine Eq.trans ?_ this
  congr 1
/-- each tyre is somewhere in each interval -/
theorem col_sum {n : Nat} {ps : List (List Nat)} (h : isPr n ps) {t : Nat} (ht : t < n) : ∀ k, sm ((List.range n).map fun pl => w n ps (unit n pl) t k) = (k : Int)
  | 0 => by
    have : ∀ l : List Nat, (∀ x ∈ l, x = 0) → sm l = 0 := by
      intro l
      induction l with
      | nil => intro _; rfl
      | cons a l ih =>
        intro hl
        have h1 := hl a List.mem_cons_self
        have h2 := ih fun x hx => hl x (List.mem_cons_of_mem _ hx)
        subst h1
        show ((0 :: l).map fun (x : Nat) => (x : Int)).sum = 0
        rw [List.map_cons, List.sum_cons]
        unfold sm at h2
        rw [h2]
        rfl
    exact this _ fun x hx => by obtain ⟨_, _, rfl⟩ := List.mem_map.mp hx; rfl
  | k + 1 => by
    have ih := col_sum h ht k
    show sm ((List.range n).map fun pl => w n ps (unit n pl) t k + (unit n pl).getD ((P n ps k).getD t 0) 0) = _
    rw [sm_add, ih, sum_unit (getD_lt (P_P h k) ht)]
    omega
theorem sm_unit {n pl : Nat} (hp : pl < n) : sm (unit n pl) = 1 := by
  have e := sum_unit (n := n) (x := pl) hp
  rw [← e]
  congr 1
  unfold unit
  refine List.map_congr_left fun x hx => ?_
  have := unit_get (n := n) (p := pl) x hp
  unfold unit at this
  rw [this]
  by_cases q : x = pl
  · rw [if_pos q, if_pos q.symm]
  · rw [if_neg q, if_neg fun z => q z.symm]
theorem cs_sum {n : Nat} (hn : Sz n) {ps : List (List Nat)} (h : isPr n ps) {pl : Nat} (hp : pl < n) : sm (cs n ps pl) = (T n ps : Int) := by
  unfold cs
  rw [sm_W hn h (unit_R n pl), sm_unit hp, Int.mul_one]
/-! ### who is never the spare -/
theorem Cn_zero {f : Nat → Nat} {v : Nat} : ∀ {k}, Cn f v k = 0 ↔ ∀ j, j < k → f j ≠ v
  | 0 => ⟨fun _ j hj => absurd hj (Nat.not_lt_zero j), fun _ => rfl⟩
  | k + 1 => by
    have ih := Cn_zero (f := f) (v := v) (k := k)
    constructor
    · intro h j hj
      have h2 : Cn f v k + (if f k = v then 1 else 0) = 0 := h
      by_cases e : j = k
      · subst e
        intro z
        rw [if_pos z] at h2
        omega
      · exact ih.mp (by omega) j (by omega)
    · intro h
      show Cn f v k + (if f k = v then 1 else 0) = 0
      rw [ih.mpr fun j hj => h j (by omega), if_neg (h k (by omega))]
theorem cs_Cn {n : Nat} (hn : Sz n) {ps : List (List Nat)} (h : isPr n ps) {pl t : Nat} (hp : pl < n) (ht : t < n) : (cs n ps pl).getD t 0 = Cn (sp n ps pl) t (T n ps) := by rw [cs_get ps pl ht, Cn_w hn h hp ht]
theorem cs_zero {n : Nat} (hn : Sz n) {ps : List (List Nat)} (h : isPr n ps) {pl t : Nat} (hp : pl < n) (ht : t < n) : (cs n ps pl).getD t 0 = 0 ↔ ∀ k, sp n ps pl k ≠ t := by
  rw [cs_Cn hn h hp ht, Cn_zero]
  constructor
  · intro H k
    rw [← per_mod (sp_per hn h pl) k]
    exact H _ (Nat.mod_lt _ (T_pos hn h))
  · intro H k _
    exact H k
/-- the places of a tyre in a turn -/
def vis (n : Nat) (ps : List (List Nat)) (t : Nat) : List Nat := (List.range (T n ps)).map fun k => (P n ps k).getD t 0
theorem vis_mem {n : Nat} (hn : Sz n) {ps : List (List Nat)} (h : isPr n ps) {pl t : Nat} (hp : pl < n) (ht : t < n) : pl ∈ vis n ps t ↔ ¬ (cs n ps pl).getD t 0 = 0 := by
  rw [cs_zero hn h hp ht]
  unfold vis
  rw [List.mem_map]
  constructor
  · rintro ⟨k, _, e⟩ H
    exact H k ((sp_iff hn h hp ht k).mpr e)
  · intro H
    have : ∃ k, sp n ps pl k = t := Classical.byContradiction fun z => H fun k e => z ⟨k, e⟩
    obtain ⟨k, e⟩ := this
    refine ⟨k % T n ps, List.mem_range.mpr (Nat.mod_lt _ (T_pos hn h)), ?_⟩
    rw [P_mod hn h]
    exact (sp_iff hn h hp ht k).mp e
theorem vis_lt {n : Nat} {ps : List (List Nat)} (h : isPr n ps) {t : Nat} (ht : t < n) : ∀ x ∈ vis n ps t, x < n := fun x hx => by
  unfold vis at hx
  obtain ⟨k, _, rfl⟩ := List.mem_map.mp hx
  exact getD_lt (P_P h k) ht
theorem nv_mem {n : Nat} {ps : List (List Nat)} {pl t : Nat} : t ∈ nv n ps pl ↔ t < n ∧ (cs n ps pl).getD t 0 = 0 := by
  unfold nv
  rw [List.mem_filter, List.mem_range, decide_eq_true_eq]
theorem filter_one {n : Nat} {p : Nat → Bool} {v : Nat} (hv : v < n) (h : ∀ t, t < n → (p t = true ↔ t ≠ v)) : ((List.range n).filter p).length = n - 1 := by
  have e1 : (List.range n).filter p = (List.range n).erase v := by
    rw [List.nodup_range.erase_eq_filter]
    refine List.filter_congr fun x hx => ?_
    have := h x (List.mem_range.mp hx)
    by_cases e : x = v
    · subst e
      have h1 : p x = false := by
        cases q : p x with
        | false => rfl
        | true => exact absurd rfl (this.mp q)
      rw [h1]; simp
    · rw [this.mpr e]; simp [e]
  rw [e1, List.length_erase_of_mem (List.mem_range.mpr hv), List.length_range]
theorem filter_two {n : Nat} {p : Nat → Bool} {u v : Nat} (hu : u < n) (hv : v < n) (huv : u ≠ v) (h1 : p u = false) (h2 : p v = false) : ((List.range n).filter p).length + 2 ≤ n := by
  have hs : ((List.range n).filter p).Sublist (((List.range n).erase u).erase v) := by
    rw [List.nodup_range.erase_eq_filter, List.Nodup.erase_eq_filter (List.Pairwise.filter (fun x => x != u) List.nodup_range), List.filter_filter]
    have : (List.range n).filter p = (List.range n).filter (fun x => p x && ((x != v) && (x != u))) := by
      refine List.filter_congr fun x _ => ?_
      by_cases e1 : x = u
      · subst e1; rw [h1]; rfl
      · by_cases e2 : x = v
        · subst e2; rw [h2]; rfl
        · simp [e1, e2]
    rw [this, ← List.filter_filter (p := p)]
    exact List.filter_sublist
  have hl := hs.length_le
  have hm : v ∈ (List.range n).erase u := (List.mem_erase_of_ne fun z => huv z.symm).mpr (List.mem_range.mpr hv)
  rw [List.length_erase_of_mem hm, List.length_erase_of_mem (List.mem_range.mpr hu), List.length_range] at hl
  omega
theorem nv_const {n : Nat} (hn : Sz n) {ps : List (List Nat)} (h : isPr n ps) {pl : Nat} (hp : pl < n) : isC n ps pl = decide ((nv n ps pl).length = n - 1) := by
  have h3 := hn.ge
  cases hc : isC n ps pl with
  | true =>
    refine (decide_eq_true ?_).symm
    have H := (isC_iff hn h pl).mp hc
    unfold nv
    refine filter_one (v := sp n ps pl 0) (sp_lt hn h hp 0) fun t ht => ?_
    rw [decide_eq_true_eq, cs_zero hn h hp ht]
    constructor
    · exact fun z e => z 0 e.symm
    · intro z k e
      exact z (by rw [← e, H k])
  | false =>
    refine (decide_eq_false fun e => ?_).symm
    obtain ⟨k, hk⟩ := isC_not hn h pl hc
    have := filter_two (n := n) (p := fun t => decide ((cs n ps pl).getD t 0 = 0)) (sp_lt hn h hp k) (sp_lt hn h hp 0) hk
      (decide_eq_false fun z => ((cs_zero hn h hp (sp_lt hn h hp k)).mp z) k rfl) (decide_eq_false fun z => ((cs_zero hn h hp (sp_lt hn h hp 0)).mp z) 0 rfl)
    unfold nv at e
    omega
/-! ### [x] * n -/
theorem rep_nums (x n : Nat) : (List.replicate n [PyData.int (x : Int)]).flatten = nums (List.replicate n x) := by
  induction n with
  | zero => rfl
  | succ n ih => rw [List.replicate_succ, List.flatten_cons, ih]; rfl
theorem eRep_one {g : DE → Option (List D)} {h : DE → Option D} {ρ : DE} {x n : Nat} (hn : n ≤ 1000) (h1 : g ρ = some [.int (x : Int)]) (h2 : h ρ = some (.int (n : Int))) : eRep g h ρ = some (nums (List.replicate n x)) := by
  rw [eRep_of h1 h2, if_pos ⟨few63 hn, by rw [List.length_singleton, Int.toNat_natCast]; omega⟩, Int.toNat_natCast, rep_nums]
end DL

namespace DL
open PySem PySem.Spec L2
/-! ### when all are back; programs put together -/
theorem back_mod {n : Nat} (hn : Sz n) {ps : List (List Nat)} (h : isPr n ps) {m : Nat} (hb : P n ps (m * ps.length) = idp n) : m % ordN (prod n ps) = 0 := by
  have ho := ord_facts hn (prod_P h)
  by_cases h0 : m % ordN (prod n ps) = 0
  · exact h0
  exfalso
  refine ord_least hn (prod_P h) (k := m % ordN (prod n ps)) (by omega) (Nat.mod_lt _ (by omega)) ?_
  have e1 : P n ps (0 + m % ordN (prod n ps) * ps.length) = comb (pw (prod n ps) (m % ordN (prod n ps))) (P n ps 0) := P_mul h 0 _
  have e2 : comb (pw (prod n ps) (m % ordN (prod n ps))) (P n ps 0) = pw (prod n ps) (m % ordN (prod n ps)) := comb_id (pw_P (prod_P h) _)
  rw [e2, Nat.zero_add] at e1
  rw [← e1, ← P_turns hn h _ (m / ordN (prod n ps)), ← hb]
  congr 1
  unfold T
  have e3 := Nat.mod_add_div m (ordN (prod n ps))
  have e4 : m / ordN (prod n ps) * (ps.length * ordN (prod n ps)) = (ordN (prod n ps) * (m / ordN (prod n ps))) * ps.length := by
    rw [Nat.mul_comm ps.length, ← Nat.mul_assoc, Nat.mul_comm (m / ordN (prod n ps))]
  rw [e4, ← Nat.add_mul, e3]
theorem back_turns {n : Nat} (hn : Sz n) {ps : List (List Nat)} (h : isPr n ps) {m : Nat} (hb : P n ps (m * ps.length) = idp n) : ∃ q, m * ps.length = q * T n ps := by
  have h0 := back_mod hn h hb
  refine ⟨m / ordN (prod n ps), ?_⟩
  have e3 := Nat.mod_add_div m (ordN (prod n ps))
  rw [h0, Nat.zero_add] at e3
  unfold T
  conv => lhs; rw [← e3]
  rw [Nat.mul_comm ps.length, ← Nat.mul_assoc, Nat.mul_comm (m / ordN (prod n ps))]
theorem nth_app {ps : List (List Nat)} {i : Nat} (hi : i < 2 * ps.length) : nth (ps ++ ps) i = nth ps (i % ps.length) := by
  unfold nth
  rw [List.getD_eq_getElem?_getD, List.getD_eq_getElem?_getD]
  by_cases h : i < ps.length
  · rw [List.getElem?_append_left h, Nat.mod_eq_of_lt h]
  · rw [List.getElem?_append_right (by omega), Nat.mod_eq_sub_mod (by omega), Nat.mod_eq_of_lt (by omega)]
theorem dbl_P {n : Nat} {ps : List (List Nat)} (h : 0 < ps.length) : ∀ k, P n (ps ++ ps) k = P n ps k
  | 0 => rfl
  | k + 1 => by
    show comb (P n (ps ++ ps) k) (nth (ps ++ ps) (k % (ps ++ ps).length)) = comb (P n ps k) (nth ps (k % ps.length))
    have e : (ps ++ ps).length = 2 * ps.length := by rw [List.length_append]; omega
    rw [dbl_P h k, e, nth_app (Nat.mod_lt _ (by omega)), Nat.mod_mul_left_mod]
theorem dbl_isPr {n : Nat} {ps : List (List Nat)} (h : isPr n ps) (h2 : ps.length ≤ 2) : isPr n (ps ++ ps) :=
  ⟨by rw [List.length_append]; have := h.pos; omega, by rw [List.length_append]; omega, fun p hp => by
    rcases List.mem_append.mp hp with q | q <;> exact h.all p q⟩
theorem dbl_T {n : Nat} (hn : Sz n) {ps : List (List Nat)} (h : isPr n ps) (h2 : ps.length ≤ 2) : ∃ q, 1 ≤ q ∧ T n (ps ++ ps) = q * T n ps := by
  have hd := dbl_isPr h h2
  have e := P_T hn hd
  rw [dbl_P h.pos] at e
  have eT : T n (ps ++ ps) = (2 * ordN (prod n (ps ++ ps))) * ps.length := by
    unfold T
    rw [List.length_append]
    have : ps.length + ps.length = 2 * ps.length := by omega
    rw [this, Nat.mul_assoc, Nat.mul_comm ps.length, ← Nat.mul_assoc]
  rw [eT] at e
  obtain ⟨q, hq⟩ := back_turns hn h e
  refine ⟨q, ?_, by rw [eT, hq]⟩
  have hp := T_pos hn hd
  rw [eT, hq] at hp
  cases q with
  | zero => rw [Nat.zero_mul] at hp; omega
  | succ q => omega
end DL

namespace DL
open PySem PySem.Spec L2
/-! ### the laws' own turns: the tyres by their places, interval by interval -/
theorem moved_ok {n : Nat} (hn : Sz n) {a p : List Nat} (ha : isP n a) (hp : isP n p) : m__law_moved [pat a, pat p] = some (pat (comb (inv p) a)) := by
  unfold m__law_moved
  rw [run_eq]
  show outO (b__law_moved [.dat (pat a), .dat (pat p), .bot]) = _
  unfold b__law_moved
  have hi := (inv_facts hn hp).1
  have h5 := hn.le
  have e := lc_rg (vs := [2]) (j := 2) (n := n) (g := eCall cLen (eCons (eVar 1) eNil)) (ρ := [.dat (pat a), .dat (pat p), .bot]) (el := e2 dIx (eVar 0) (e2 dIndex (eVar 1) (eVar 2))) (by omega) (by simp only [v_var, v_own, v_varOf, v_ownOf, v_c, v_1, v_2, v_nil, v_cons, v_call, v_tup, v_lst, v_toL, v_ofL, v_toB, v_ofB, v_not, v_and, v_or, v_if, v_chain, v_ixL, v_part, v_tupL, v_l2, v_yes, v_mNil, v_mDat, v_mOwn, v_divmod, v_asL, v_asT, v_asB, v_asI, v_add, v_sub, v_neg, v_lt, v_le, v_gt, v_ge, v_isB, v_notB, v_isN, v_notN, v_isNi, v_isNn, bS, lineOk0, dIx_l, dIx_t, cLen_l, cLen_t, asSeq_l, asSeq_t, wipeD, setM, List.getElem?_cons_zero, List.getElem?_cons_succ, List.set_cons_zero, List.set_cons_succ, if_true, if_false, ite_true, ite_false, Bool.false_eq_true, Bool.not_true, Bool.not_false, cLen_pat hp])
    (fun k => PyData.int ((a.getD ((inv p).getD k 0) 0 : Nat) : Int)) fun i hi' => by simp only [v_var, v_own, v_varOf, v_ownOf, v_c, v_1, v_2, v_nil, v_cons, v_call, v_tup, v_lst, v_toL, v_ofL, v_toB, v_ofB, v_not, v_and, v_or, v_if, v_chain, v_ixL, v_part, v_tupL, v_l2, v_yes, v_mNil, v_mDat, v_mOwn, v_divmod, v_asL, v_asT, v_asB, v_asI, v_add, v_sub, v_neg, v_lt, v_le, v_gt, v_ge, v_isB, v_notB, v_isN, v_notN, v_isNi, v_isNn, bS, lineOk0, dIx_l, dIx_t, cLen_l, cLen_t, asSeq_l, asSeq_t, wipeD, setM, List.getElem?_cons_zero, List.getElem?_cons_succ, List.set_cons_zero, List.set_cons_succ, if_true, if_false, ite_true, ite_false, Bool.false_eq_true, Bool.not_true, Bool.not_false, idx_pat hn hp hi', dIx_p ha (getD_lt hi hi')]
  rw [sRet_ok (d := pat (comb (inv p) a)) (by
    rw [v_tupL, e, bS, comb_range hi.len, pat, nums_mapN])]
  rfl
def rowsP (n : Nat) (ps : List (List Nat)) : List D := upto (T n ps) fun k => pat (row n ps k)
theorem law_turn_ok {n : Nat} (hn : Sz n) {ps : List (List Nat)} (h : isPr n ps) : m__law_turn [prog ps] = some (.list (rowsP n ps)) := by
  unfold m__law_turn
  rw [run_eq]
  show outO (b__law_turn [.dat (prog ps), .bot, .bot, .bot]) = _
  unfold b__law_turn
  have hl4 := h.le
  have hT := T_le hn h
  have hT0 := T_pos hn h
  have h5 := hn.le
  rw [sSeq_nx (sSet_ok (d := pat (idp n)) (by rw [v_tupL, rgN_ok n (by omega) (by simp only [v_var, v_own, v_varOf, v_ownOf, v_c, v_1, v_2, v_nil, v_cons, v_call, v_tup, v_lst, v_toL, v_ofL, v_toB, v_ofB, v_not, v_and, v_or, v_if, v_chain, v_ixL, v_part, v_tupL, v_l2, v_yes, v_mNil, v_mDat, v_mOwn, v_divmod, v_asL, v_asT, v_asB, v_asI, v_add, v_sub, v_neg, v_lt, v_le, v_gt, v_ge, v_isB, v_notB, v_isN, v_notN, v_isNi, v_isNn, bS, lineOk0, dIx_l, dIx_t, cLen_l, cLen_t, asSeq_l, asSeq_t, wipeD, setM, List.getElem?_cons_zero, List.getElem?_cons_succ, List.set_cons_zero, List.set_cons_succ, if_true, if_false, ite_true, ite_false, Bool.false_eq_true, Bool.not_true, Bool.not_false, dIx_prog0 h.pos, cLen_pat (nth_P h h.pos)]), bS]; rfl))]
  simp only [setM, List.set_cons_succ, List.set_cons_zero]
  rw [sSeq_nx (sPar_ok (xs := [.own (upto 0 fun k => pat (row n ps k)), .dat (pat (row n ps 0))]) (by rw [row_zero hn]; simp only [v_var, v_own, v_varOf, v_ownOf, v_c, v_1, v_2, v_nil, v_cons, v_call, v_tup, v_lst, v_toL, v_ofL, v_toB, v_ofB, v_not, v_and, v_or, v_if, v_chain, v_ixL, v_part, v_tupL, v_l2, v_yes, v_mNil, v_mDat, v_mOwn, v_divmod, v_asL, v_asT, v_asB, v_asI, v_add, v_sub, v_neg, v_lt, v_le, v_gt, v_ge, v_isB, v_notB, v_isN, v_notN, v_isNi, v_isNn, bS, lineOk0, dIx_l, dIx_t, cLen_l, cLen_t, asSeq_l, asSeq_t, wipeD, setM, List.getElem?_cons_zero, List.getElem?_cons_succ, List.set_cons_zero, List.set_cons_succ, if_true, if_false, ite_true, ite_false, Bool.false_eq_true, Bool.not_true, Bool.not_false]; rfl))]
  simp only [setM, List.set_cons_succ, List.set_cons_zero]
  have hcond : ∀ k : Nat, (eOr (e2 dEq (eOfL (eOwn 2)) (eOfL (eLst eNil))) (eOr (e2 dNe (eVar 3) (eVar 1)) (e2 dNe (e2 dMod (eCall cLen (eCons (eOfL (eOwn 2)) eNil)) (eCall cLen (eCons (eVar 0) eNil))) (eC (.int 0)))))
      [.dat (prog ps), .dat (pat (idp n)), .own (upto k fun k => pat (row n ps k)), .dat (pat (row n ps k))] = some (decide (k = 0) || (!decide (row n ps k = idp n) || !decide (k % ps.length = 0))) := fun k => by
    have e0 : dEq (.list (upto k fun k => pat (row n ps k))) (.list []) = some (decide (k = 0)) := by
      rw [dEq_sh (sh_upto (k := 1) fun _ => Sh.pat _) (Sh.list (k := 0) fun d hd => by cases hd)]
      refine congrArg some ?_
      cases k with
      | zero => rfl
      | succ k =>
        rw [decide_eq_false (by omega), upto_succ]
        show PyData.eqvAll (_ ++ [_]) [] = false
        generalize (upto k fun k => pat (row n ps k)) = xs
        cases xs <;> simp [PyData.eqvAll]
    have m0 : decide (((k % ps.length : Nat) : Int) = 0) = decide (k % ps.length = 0) := decide_eq_decide.mpr (by omega)
    simp only [v_var, v_own, v_varOf, v_ownOf, v_c, v_1, v_2, v_nil, v_cons, v_call, v_tup, v_lst, v_toL, v_ofL, v_toB, v_ofB, v_not, v_and, v_or, v_if, v_chain, v_ixL, v_part, v_tupL, v_l2, v_yes, v_mNil, v_mDat, v_mOwn, v_divmod, v_asL, v_asT, v_asB, v_asI, v_add, v_sub, v_neg, v_lt, v_le, v_gt, v_ge, v_isB, v_notB, v_isN, v_notN, v_isNi, v_isNn, bS, lineOk0, dIx_l, dIx_t, cLen_l, cLen_t, asSeq_l, asSeq_t, wipeD, setM, List.getElem?_cons_zero, List.getElem?_cons_succ, List.set_cons_zero, List.set_cons_succ, if_true, if_false, ite_true, ite_false, Bool.false_eq_true, Bool.not_true, Bool.not_false, e0, dNe_pat, upto_len, cLen_prog, modN k ps.length h.pos, dNe_int, m0]
    cases decide (k = 0) with
    | true => rfl
    | false =>
      cases decide (row n ps k = idp n) with
      | true => cases decide (k % ps.length = 0) <;> rfl
      | false => rfl
  have hstop : ∀ k : Nat, k ≤ T n ps → (decide (k = 0) || (!decide (row n ps k = idp n) || !decide (k % ps.length = 0))) = !decide (k = T n ps) := fun k hk => by
    by_cases e : k = T n ps
    · subst e
      have e1 : row n ps (T n ps) = idp n := by unfold row; rw [P_T hn h, inv_id hn]
      have e2 : T n ps % ps.length = 0 := Nat.mul_mod_right _ _
      rw [decide_eq_true e1, decide_eq_true e2, decide_eq_true rfl, decide_eq_false (by omega)]
      rfl
    · rw [decide_eq_false e]
      by_cases h0 : k = 0
      · rw [decide_eq_true h0]; rfl
      · by_cases h1 : row n ps k = idp n
        · by_cases h2 : k % ps.length = 0
          · exfalso
            have hP : P n ps k = idp n := by
              have := (inv_facts hn (P_P h k)).2.2.2
              rw [← this, show inv (P n ps k) = idp n from h1, inv_id hn]
            have hk2 : k / ps.length * ps.length = k := Nat.div_mul_cancel (Nat.dvd_of_mod_eq_zero h2)
            obtain ⟨q, hq⟩ := back_turns hn h (m := k / ps.length) (by rw [hk2]; exact hP)
            rw [hk2] at hq
            cases q with
            | zero => rw [Nat.zero_mul] at hq; exact h0 hq
            | succ q =>
              have : (q + 1) * T n ps = q * T n ps + T n ps := by rw [Nat.add_mul, Nat.one_mul]
              omega
          · rw [decide_eq_false h2]; simp
        · rw [decide_eq_false h1]; simp
  obtain ⟨ρ', h2, ⟨k, hk, rfl⟩, hend⟩ := while_inv (c := eOr (e2 dEq (eOfL (eOwn 2)) (eOfL (eLst eNil))) (eOr (e2 dNe (eVar 3) (eVar 1)) (e2 dNe (e2 dMod (eCall cLen (eCons (eOfL (eOwn 2)) eNil)) (eCall cLen (eCons (eVar 0) eNil))) (eC (.int 0)))))
    (b := (sSeq (sApp 2 (eVar 3)) (sSet 3 (eCall m__law_moved (eCons (eVar 3) (eCons (e2 dIx (eVar 0) (e2 dMod (e2 dSub (eCall cLen (eCons (eOfL (eOwn 2)) eNil)) (eC (.int 1))) (eCall cLen (eCons (eVar 0) eNil)))) eNil))))))
    (fun ρ => ∃ k, k ≤ T n ps ∧ ρ = [.dat (prog ps), .dat (pat (idp n)), .own (upto k fun k => pat (row n ps k)), .dat (pat (row n ps k))])
    (fun (ρ : DE) => 25 - (match ρ[2]? with | some (DV.own ds) => ds.length | _ => 0))
    (fun ρ ⟨k, hk, e⟩ => by
      subst e
      rw [hcond, hstop k hk]
      by_cases e : k = T n ps
      · rw [decide_eq_true e]; exact .inl rfl
      · rw [decide_eq_false e]
        refine .inr ⟨rfl, _, .inl ?_, ⟨k + 1, by omega, rfl⟩, ?_⟩
        · rw [sSeq_nx (sApp_ok (d := pat (row n ps k)) (by simp only [v_var, v_own, v_varOf, v_ownOf, v_c, v_1, v_2, v_nil, v_cons, v_call, v_tup, v_lst, v_toL, v_ofL, v_toB, v_ofB, v_not, v_and, v_or, v_if, v_chain, v_ixL, v_part, v_tupL, v_l2, v_yes, v_mNil, v_mDat, v_mOwn, v_divmod, v_asL, v_asT, v_asB, v_asI, v_add, v_sub, v_neg, v_lt, v_le, v_gt, v_ge, v_isB, v_notB, v_isN, v_notN, v_isNi, v_isNn, bS, lineOk0, dIx_l, dIx_t, cLen_l, cLen_t, asSeq_l, asSeq_t, wipeD, setM, List.getElem?_cons_zero, List.getElem?_cons_succ, List.set_cons_zero, List.set_cons_succ, if_true, if_false, ite_true, ite_false, Bool.false_eq_true, Bool.not_true, Bool.not_false]) rfl (by rw [upto_len]; omega)), ← upto_succ]
          simp only [setM, List.set_cons_succ, List.set_cons_zero]
          have e1 : ((k + 1 : Nat) : Int) - 1 = (k : Int) := by omega
          rw [sSet_ok (d := pat (row n ps (k + 1))) (by
            simp only [v_var, v_own, v_varOf, v_ownOf, v_c, v_1, v_2, v_nil, v_cons, v_call, v_tup, v_lst, v_toL, v_ofL, v_toB, v_ofB, v_not, v_and, v_or, v_if, v_chain, v_ixL, v_part, v_tupL, v_l2, v_yes, v_mNil, v_mDat, v_mOwn, v_divmod, v_asL, v_asT, v_asB, v_asI, v_add, v_sub, v_neg, v_lt, v_le, v_gt, v_ge, v_isB, v_notB, v_isN, v_notN, v_isNi, v_isNn, bS, lineOk0, dIx_l, dIx_t, cLen_l, cLen_t, asSeq_l, asSeq_t, wipeD, setM, List.getElem?_cons_zero, List.getElem?_cons_succ, List.set_cons_zero, List.set_cons_succ, if_true, if_false, ite_true, ite_false, Bool.false_eq_true, Bool.not_true, Bool.not_false, upto_len, cLen_prog, e1, modN k ps.length h.pos, dIx_prog (Nat.mod_lt k h.pos), moved_ok hn (row_P hn h k) (nth_P h (Nat.mod_lt k h.pos)), row_succ hn h k])]
          rfl
        · show 25 - (upto (k + 1) fun k => pat (row n ps k)).length < 25 - (upto k fun k => pat (row n ps k)).length
          rw [upto_len, upto_len]
          omega) FUEL [.dat (prog ps), .dat (pat (idp n)), .own (upto 0 fun k => pat (row n ps k)), .dat (pat (row n ps 0))]
    ⟨0, Nat.zero_le _, rfl⟩ (by show 25 - _ < 100000; omega)
  rw [hcond, hstop k hk] at hend
  have hz : k = T n ps := by
    have := Option.some.inj hend
    cases hd : decide (k = T n ps) with
    | true => exact of_decide_eq_true hd
    | false => rw [hd] at this; cases this
  subst hz
  rw [sSeq_nx h2, sFz_ok rfl]
  simp only [setM, List.set_cons_succ, List.set_cons_zero]
  rw [sRet_ok (d := .list (rowsP n ps)) (by simp only [v_var, v_own, v_varOf, v_ownOf, v_c, v_1, v_2, v_nil, v_cons, v_call, v_tup, v_lst, v_toL, v_ofL, v_toB, v_ofB, v_not, v_and, v_or, v_if, v_chain, v_ixL, v_part, v_tupL, v_l2, v_yes, v_mNil, v_mDat, v_mOwn, v_divmod, v_asL, v_asT, v_asB, v_asI, v_add, v_sub, v_neg, v_lt, v_le, v_gt, v_ge, v_isB, v_notB, v_isN, v_notN, v_isNi, v_isNn, bS, lineOk0, dIx_l, dIx_t, cLen_l, cLen_t, asSeq_l, asSeq_t, wipeD, setM, List.getElem?_cons_zero, List.getElem?_cons_succ, List.set_cons_zero, List.set_cons_succ, if_true, if_false, ite_true, ite_false, Bool.false_eq_true, Bool.not_true, Bool.not_false]; rfl)]
  rfl
end DL

namespace DL
open PySem PySem.Spec L2
/-! ### exceptions -/
def outX : SO → XR
  | .ret d => .ok d
  | .nx _ => .ok .none
  | .err c _ => .err c
  | _ => .bad
theorem runX_eq (n : Nat) (g : DS) (ds : List D) : runX n g ds = outX (g (initD n ds)) := by
  unfold runX outX
  cases g (initD n ds) <;> rfl
theorem sExprX_ok {g : DE → XR} {ρ : DE} {d : D} (h : g ρ = .ok d) : sExprX g ρ = .nx ρ := by unfold sExprX; rw [h]
theorem sExprX_err {g : DE → XR} {ρ : DE} {c : Str} (h : g ρ = .err c) : sExprX g ρ = .err c ρ := by unfold sExprX; rw [h]
theorem sSeq_err {a b : DS} {ρ ρ' : DE} {c : Str} (h : a ρ = .err c ρ') : sSeq a b ρ = .err c ρ' := by unfold sSeq; rw [h]
theorem xCall_of {m : List D → XR} {ga : DE → Option (List D)} {ρ : DE} {ds : List D} (h : ga ρ = some ds) : xCall m ga ρ = m ds := by unfold xCall; rw [h]
theorem sTry_err {b : DS} {i : Nat} {cs : List Str} {h : Str → DS} {ρ ρ' : DE} {c : Str} {d : D} (hb : b ρ = .err c ρ') (hc : c ∈ cs) (hi : i < ρ'.length) (hr : h c ρ' = .ret d) : sTry b i cs h ρ = .ret d := by
  unfold sTry
  rw [hb]
  dsimp only
  rw [if_pos ⟨hc, hi⟩, hr]
theorem xCallL_of {ms : List (List D → XR)} {gi : DE → Option D} {ga : DE → Option (List D)} {ρ : DE} {j : Nat} {m : List D → XR} {ds : List D} (h1 : gi ρ = some (.int (j : Int))) (h2 : ms[j]? = some m) (h3 : ga ρ = some ds) : xCallL ms gi ga ρ = m ds := by
  unfold xCallL
  rw [h1, bS, show asI (.int (j : Int)) = some (j : Int) from rfl, bS, atI_ok h2, h3]
theorem outX_err {r : SO} {c : Str} {ρ : DE} (h : r = .err c ρ) : outX r = .err c := by rw [h]; rfl
/-! ### what is no program -/
def badL : List D := [.none, .tuple [], pat [0, 2, 1], .list [pat [0, 2, 1]], .tuple [pat [0, 2, 1], pat [1, 0, 3, 2]], .tuple (List.replicate 5 (pat [0, 2, 1])), .tuple [pat [0, 1, 1]], .tuple [.list (nums [0, 2, 1])], .int 5, .tuple [pat [0, 2, 1], .none]]
def isErr (c : Str) : XR → Bool
  | .err c' => c' == c
  | _ => false
theorem isErr_eq {c : Str} {r : XR} (h : isErr c r = true) : r = .err c := by
  cases r with
  | err c' => rw [show c' = c from eq_of_beq h]
  | _ => cases h
theorem bad_all : badL.all (fun d => isErr "InvalidProgram" (x_check_program [d])) = true := by kernel_rfl
theorem bad_err {d : D} (h : d ∈ badL) : x_check_program [d] = .err "InvalidProgram" := isErr_eq (List.all_eq_true.mp bad_all d h)
theorem badlist_ok (x : DV) : ∃ b2 b3 : DV, ∀ t : DS, sSeq (sPar [2, 3] (mDat (eTup (eCons (eC (.int 0)) (eCons (eC (.int 2)) (eCons (eC (.int 1)) eNil)))) (mDat (eTup (eCons (eC (.int 1)) (eCons (eC (.int 0)) (eCons (eC (.int 3)) (eCons (eC (.int 2)) eNil))))) mNil))) t [x, .bot, .bot, .bot, .bot] = t [x, .bot, b2, b3, .bot] := ⟨_, _, fun t => rfl⟩
theorem badprogram_ok (ns : List Int) (hl : ns.length ≤ 63) (k : Nat) (hk : k < 90000) : ∃ d, d ∈ badL ∧ m__law_badprogram [script ns, .int (k : Int)] = some d := by
  obtain ⟨r, hr, e⟩ := drawn_ok ns hl k 10 (by omega) (by omega)
  have hr' : r < badL.length := hr
  have e' : m__law_drawn [script ns, .int (k : Int), .int 10] = some (.int (r : Int)) := e
  refine ⟨badL[r], List.getElem_mem hr', ?_⟩
  unfold m__law_badprogram
  rw [run_eq]
  show outO (b__law_badprogram [.dat (script ns), .dat (.int (k : Int)), .bot, .bot, .bot]) = _
  unfold b__law_badprogram
  rw [sSeq_nx (sPar_ok (xs := [.dat (pat [0, 2, 1]), .dat (pat [1, 0, 3, 2])]) (by kernel_rfl))]
  simp only [setM, List.set_cons_succ, List.set_cons_zero]
  have e1 : ∀ x y, (sSet 4 (eOfL (eLst (eCons (eC .none) (eCons (eTup eNil) (eCons (eVar 2) (eCons (eOfL (eLst (eCons (eVar 2) eNil))) (eCons (eTup (eCons (eVar 2) (eCons (eVar 3) eNil))) (eCons (e2 dMul (eTup (eCons (eVar 2) eNil)) (eC (.int 5))) (eCons (eTup (eCons (eTup (eCons (eC (.int 0)) (eCons (eC (.int 1)) (eCons (eC (.int 1)) eNil)))) eNil)) (eCons (eTup (eCons (eOfL (e1 asSeq (eVar 2))) eNil)) (eCons (eC (.int 5)) eNil)))))))))))) [x, y, .dat (pat [0, 2, 1]), .dat (pat [1, 0, 3, 2]), .bot] = .nx [x, y, .dat (pat [0, 2, 1]), .dat (pat [1, 0, 3, 2]), .dat (.list (badL.take 9))] := fun x y => by kernel_rfl
  rw [sSeq_nx (e1 _ _)]
  have e2 : ∀ x y, (sSet 4 (eOfL (l2 lCat (eToL (eVar 4)) (eLst (eCons (eTup (eCons (eVar 2) (eCons (eC .none) eNil))) eNil))))) [x, y, .dat (pat [0, 2, 1]), .dat (pat [1, 0, 3, 2]), .dat (.list (badL.take 9))] = .nx [x, y, .dat (pat [0, 2, 1]), .dat (pat [1, 0, 3, 2]), .dat (.list badL)] := fun x y => by kernel_rfl
  rw [sSeq_nx (e2 _ _), sRet_ok (d := badL[r]) (by simp only [v_var, v_own, v_varOf, v_ownOf, v_c, v_1, v_2, v_nil, v_cons, v_call, v_tup, v_lst, v_toL, v_ofL, v_toB, v_ofB, v_not, v_and, v_or, v_if, v_chain, v_ixL, v_part, v_tupL, v_l2, v_yes, v_mNil, v_mDat, v_mOwn, v_divmod, v_asL, v_asT, v_asB, v_asI, v_add, v_sub, v_neg, v_lt, v_le, v_gt, v_ge, v_isB, v_notB, v_isN, v_notN, v_isNi, v_isNn, bS, lineOk0, dIx_l, dIx_t, cLen_l, cLen_t, asSeq_l, asSeq_t, wipeD, setM, List.getElem?_cons_zero, List.getElem?_cons_succ, List.set_cons_zero, List.set_cons_succ, if_true, if_false, ite_true, ite_false, Bool.false_eq_true, Bool.not_true, Bool.not_false, e']; exact atI_ok (List.getElem?_eq_getElem hr'))]
  rfl
/-! ### the checks -/
theorem x_prog_ok {n : Nat} (hn : Sz n) {ps : List (List Nat)} (h : isPr n ps) : x_check_program [prog ps] = .ok .none := by
  unfold x_check_program
  rw [runX_eq]
  show outX (bx_check_program [.dat (prog ps)]) = _
  unfold bx_check_program
  rw [sIfN_f (by simp only [v_var, v_own, v_varOf, v_ownOf, v_c, v_1, v_2, v_nil, v_cons, v_call, v_tup, v_lst, v_toL, v_ofL, v_toB, v_ofB, v_not, v_and, v_or, v_if, v_chain, v_ixL, v_part, v_tupL, v_l2, v_yes, v_mNil, v_mDat, v_mOwn, v_divmod, v_asL, v_asT, v_asB, v_asI, v_add, v_sub, v_neg, v_lt, v_le, v_gt, v_ge, v_isB, v_notB, v_isN, v_notN, v_isNi, v_isNn, bS, lineOk0, dIx_l, dIx_t, cLen_l, cLen_t, asSeq_l, asSeq_t, wipeD, setM, List.getElem?_cons_zero, List.getElem?_cons_succ, List.set_cons_zero, List.set_cons_succ, if_true, if_false, ite_true, ite_false, Bool.false_eq_true, Bool.not_true, Bool.not_false, is_program_ok hn h])]
  rfl
end DL

namespace DL
open PySem PySem.Spec L2
/-! ### sides -/
structure isSd (n : Nat) (s : List Nat) : Prop where
  len : s.length = n
  lt : ∀ x ∈ s, x < 2
/-- each tyre is on its first side -/
def keepB (n : Nat) (s a : List Nat) : Bool := (List.range n).all fun t => decide (s.getD t 0 = s.getD (a.getD t 0) 0)
theorem keepB_iff {n : Nat} {s a : List Nat} : keepB n s a = true ↔ ∀ t, t < n → s.getD t 0 = s.getD (a.getD t 0) 0 := by
  unfold keepB
  rw [List.all_eq_true]
  constructor
  · exact fun h t ht => of_decide_eq_true (h t (List.mem_range.mpr ht))
  · exact fun h t ht => decide_eq_true (h t (List.mem_range.mp ht))
theorem enumT_pat {n : Nat} {p : List Nat} (hp : p.length = n) : dEnumT (pat p) = some ((List.range n).map fun (i : Nat) => PyData.tuple [.int (i : Int), .int ((p.getD i 0 : Nat) : Int)]) := by
  show some (enumL (nums p)) = _
  rw [enum_nums hp]
theorem dIx_s {n : Nat} {s : List Nat} (hs : isSd n s) {i : Nat} (h : i < n) : dIx (pat s) (.int (i : Int)) = some (.int ((s.getD i 0 : Nat) : Int)) := dIx_pat (by rw [hs.len]; exact h)
theorem decN (a b : Nat) : decide ((a : Int) = (b : Int)) = decide (a = b) := decide_eq_decide.mpr (by omega)
/-- a comprehension over enumerate of a tuple -/
theorem lc_enumT {vs : List Nat} {a b n : Nat} {z : DE → Option D} {tt : DE → Option Bool} {el : DE → Option D} {ρ : DE} {l : List Nat} (hn : n ≤ 1000) (hl : l.length = n) (hz : z ρ = some (pat l)) (p : Nat → Bool) (f : Nat → D)
    (H : ∀ i, i < n → tt (((wipeD ρ vs).set a (.dat (.int (i : Int)))).set b (.dat (.int ((l.getD i 0 : Nat) : Int)))) = some (p i) ∧ el (((wipeD ρ vs).set a (.dat (.int (i : Int)))).set b (.dat (.int ((l.getD i 0 : Nat) : Int)))) = some (f i)) :
    eLc vs (e1 dEnumT z) (hTup (hsCons (hName a) (hsCons (hName b) hsNil))) tt el ρ = some (((List.range n).filter p).map f) := by
  rw [v_lc, e1_ok hz (enumT_pat hl), bS, lineOk_ok (by rw [List.length_map, List.length_range]; omega), bS]
  exact compD_filter p (fun (i : Nat) => PyData.tuple [.int (i : Int), .int ((l.getD i 0 : Nat) : Int)]) f fun i hi => ⟨_, rfl, H i (List.mem_range.mp hi)⟩
theorem does_keep_ok {n : Nat} (hn : Sz n) {s a : List Nat} (hs : isSd n s) (ha : isP n a) : m_does_keep [pat s, pat a] = some (.bool (keepB n s a)) := by
  unfold m_does_keep
  rw [run_eq]
  show outO (b_does_keep [.dat (pat s), .dat (pat a), .bot, .bot]) = _
  unfold b_does_keep
  have h5 := hn.le
  have e := lc_enumT (vs := [2, 3]) (a := 2) (b := 3) (n := n) (z := eVar 1) (tt := eYes) (el := eOfB (e2 dEq (e2 dIx (eVar 0) (eVar 2)) (e2 dIx (eVar 0) (eVar 3)))) (ρ := [.dat (pat s), .dat (pat a), .bot, .bot]) (l := a) (by omega) ha.len (by simp only [v_var, v_own, v_varOf, v_ownOf, v_c, v_1, v_2, v_nil, v_cons, v_call, v_tup, v_lst, v_toL, v_ofL, v_toB, v_ofB, v_not, v_and, v_or, v_if, v_chain, v_ixL, v_part, v_tupL, v_l2, v_yes, v_mNil, v_mDat, v_mOwn, v_divmod, v_asL, v_asT, v_asB, v_asI, v_add, v_sub, v_neg, v_lt, v_le, v_gt, v_ge, v_isB, v_notB, v_isN, v_notN, v_isNi, v_isNn, bS, lineOk0, dIx_l, dIx_t, cLen_l, cLen_t, asSeq_l, asSeq_t, wipeD, setM, List.getElem?_cons_zero, List.getElem?_cons_succ, List.set_cons_zero, List.set_cons_succ, if_true, if_false, ite_true, ite_false, Bool.false_eq_true, Bool.not_true, Bool.not_false]) (fun _ => true)
    (fun t => .bool (decide (s.getD t 0 = s.getD (a.getD t 0) 0))) fun i hi => ⟨by simp only [v_var, v_own, v_varOf, v_ownOf, v_c, v_1, v_2, v_nil, v_cons, v_call, v_tup, v_lst, v_toL, v_ofL, v_toB, v_ofB, v_not, v_and, v_or, v_if, v_chain, v_ixL, v_part, v_tupL, v_l2, v_yes, v_mNil, v_mDat, v_mOwn, v_divmod, v_asL, v_asT, v_asB, v_asI, v_add, v_sub, v_neg, v_lt, v_le, v_gt, v_ge, v_isB, v_notB, v_isN, v_notN, v_isNi, v_isNn, bS, lineOk0, dIx_l, dIx_t, cLen_l, cLen_t, asSeq_l, asSeq_t, wipeD, setM, List.getElem?_cons_zero, List.getElem?_cons_succ, List.set_cons_zero, List.set_cons_succ, if_true, if_false, ite_true, ite_false, Bool.false_eq_true, Bool.not_true, Bool.not_false], by simp only [v_var, v_own, v_varOf, v_ownOf, v_c, v_1, v_2, v_nil, v_cons, v_call, v_tup, v_lst, v_toL, v_ofL, v_toB, v_ofB, v_not, v_and, v_or, v_if, v_chain, v_ixL, v_part, v_tupL, v_l2, v_yes, v_mNil, v_mDat, v_mOwn, v_divmod, v_asL, v_asT, v_asB, v_asI, v_add, v_sub, v_neg, v_lt, v_le, v_gt, v_ge, v_isB, v_notB, v_isN, v_notN, v_isNi, v_isNn, bS, lineOk0, dIx_l, dIx_t, cLen_l, cLen_t, asSeq_l, asSeq_t, wipeD, setM, List.getElem?_cons_zero, List.getElem?_cons_succ, List.set_cons_zero, List.set_cons_succ, if_true, if_false, ite_true, ite_false, Bool.false_eq_true, Bool.not_true, Bool.not_false, dIx_s hs hi, dIx_s hs (getD_lt ha hi), dEq_int, decN]⟩
  have ef : (List.range n).filter (fun _ => true) = List.range n := List.filter_eq_self.mpr fun _ _ => rfl
  rw [ef] at e
  rw [sRet_ok (d := .bool (keepB n s a)) (by
    simp only [v_var, v_own, v_varOf, v_ownOf, v_c, v_1, v_2, v_nil, v_cons, v_call, v_tup, v_lst, v_toL, v_ofL, v_toB, v_ofB, v_not, v_and, v_or, v_if, v_chain, v_ixL, v_part, v_tupL, v_l2, v_yes, v_mNil, v_mDat, v_mOwn, v_divmod, v_asL, v_asT, v_asB, v_asI, v_add, v_sub, v_neg, v_lt, v_le, v_gt, v_ge, v_isB, v_notB, v_isN, v_notN, v_isNi, v_isNn, bS, lineOk0, dIx_l, dIx_t, cLen_l, cLen_t, asSeq_l, asSeq_t, wipeD, setM, List.getElem?_cons_zero, List.getElem?_cons_succ, List.set_cons_zero, List.set_cons_succ, if_true, if_false, ite_true, ite_false, Bool.false_eq_true, Bool.not_true, Bool.not_false, e]
    exact cAll_map (List.range n) fun t => decide (s.getD t 0 = s.getD (a.getD t 0) 0))]
  rfl
theorem isK_tup (s : List Nat) : dIsK "tuple" (pat s) = some true := rfl
theorem all_true (l : List Nat) : l.all (fun _ => true) = true := List.all_eq_true.mpr fun _ _ => rfl
theorem check_sides_ok {n : Nat} (hn : Sz n) {s : List Nat} (hs : isSd n s) : m_check_sides [pat s] = some .none := by
  unfold m_check_sides
  rw [run_eq]
  show outO (b_check_sides [.dat (pat s), .bot]) = _
  unfold b_check_sides
  have h3 := hn.ge
  have h5 := hn.le
  have cl : cLen [pat s] = some (.int (n : Int)) := by
    show some (PyData.int ((nums s).length : Nat)) = _
    rw [nums_length, hs.len]
  have hc : eLc [1] (e1 asSeq (eVar 0)) (hName 1) eYes (eCall m_is_int (eCons (eVar 1) (eCons (eC (.int 0)) (eCons (eC (.int 1)) eNil)))) [.dat (pat s), .bot] = some (s.map fun _ => PyData.bool true) :=
    lc_map (fun x : Nat => PyData.int (x : Int)) _ (by rw [hs.len]; omega) (by simp only [v_var, v_own, v_varOf, v_ownOf, v_c, v_1, v_2, v_nil, v_cons, v_call, v_tup, v_lst, v_toL, v_ofL, v_toB, v_ofB, v_not, v_and, v_or, v_if, v_chain, v_ixL, v_part, v_tupL, v_l2, v_yes, v_mNil, v_mDat, v_mOwn, v_divmod, v_asL, v_asT, v_asB, v_asI, v_add, v_sub, v_neg, v_lt, v_le, v_gt, v_ge, v_isB, v_notB, v_isN, v_notN, v_isNi, v_isNn, bS, lineOk0, dIx_l, dIx_t, cLen_l, cLen_t, asSeq_l, asSeq_t, wipeD, setM, List.getElem?_cons_zero, List.getElem?_cons_succ, List.set_cons_zero, List.set_cons_succ, if_true, if_false, ite_true, ite_false, Bool.false_eq_true, Bool.not_true, Bool.not_false]; rfl) fun x hx => by
      have b := hs.lt x hx
      simp only [v_var, v_own, v_varOf, v_ownOf, v_c, v_1, v_2, v_nil, v_cons, v_call, v_tup, v_lst, v_toL, v_ofL, v_toB, v_ofB, v_not, v_and, v_or, v_if, v_chain, v_ixL, v_part, v_tupL, v_l2, v_yes, v_mNil, v_mDat, v_mOwn, v_divmod, v_asL, v_asT, v_asB, v_asI, v_add, v_sub, v_neg, v_lt, v_le, v_gt, v_ge, v_isB, v_notB, v_isN, v_notN, v_isNi, v_isNn, bS, lineOk0, dIx_l, dIx_t, cLen_l, cLen_t, asSeq_l, asSeq_t, wipeD, setM, List.getElem?_cons_zero, List.getElem?_cons_succ, List.set_cons_zero, List.set_cons_succ, if_true, if_false, ite_true, ite_false, Bool.false_eq_true, Bool.not_true, Bool.not_false, is_int_in (i := (x : Int)) (a := 0) (b := 1) (by omega) (by omega)]
  have ca := cAll_map s (fun _ => true)
  rw [all_true] at ca
  have c1 : (3 : Int) ≤ (n : Int) := by omega
  have c2 : (n : Int) ≤ 5 := by omega
  rw [sSeq_nx (sIfN_f (by simp only [v_var, v_own, v_varOf, v_ownOf, v_c, v_1, v_2, v_nil, v_cons, v_call, v_tup, v_lst, v_toL, v_ofL, v_toB, v_ofB, v_not, v_and, v_or, v_if, v_chain, v_ixL, v_part, v_tupL, v_l2, v_yes, v_mNil, v_mDat, v_mOwn, v_divmod, v_asL, v_asT, v_asB, v_asI, v_add, v_sub, v_neg, v_lt, v_le, v_gt, v_ge, v_isB, v_notB, v_isN, v_notN, v_isNi, v_isNn, bS, lineOk0, dIx_l, dIx_t, cLen_l, cLen_t, asSeq_l, asSeq_t, wipeD, setM, List.getElem?_cons_zero, List.getElem?_cons_succ, List.set_cons_zero, List.set_cons_succ, if_true, if_false, ite_true, ite_false, Bool.false_eq_true, Bool.not_true, Bool.not_false, isK_tup, cl, c1, c2, decide_true, if_true, Bool.not_true, Bool.false_eq_true, if_false])), sIfN_f (by simp only [v_var, v_own, v_varOf, v_ownOf, v_c, v_1, v_2, v_nil, v_cons, v_call, v_tup, v_lst, v_toL, v_ofL, v_toB, v_ofB, v_not, v_and, v_or, v_if, v_chain, v_ixL, v_part, v_tupL, v_l2, v_yes, v_mNil, v_mDat, v_mOwn, v_divmod, v_asL, v_asT, v_asB, v_asI, v_add, v_sub, v_neg, v_lt, v_le, v_gt, v_ge, v_isB, v_notB, v_isN, v_notN, v_isNi, v_isNn, bS, lineOk0, dIx_l, dIx_t, cLen_l, cLen_t, asSeq_l, asSeq_t, wipeD, setM, List.getElem?_cons_zero, List.getElem?_cons_succ, List.set_cons_zero, List.set_cons_succ, if_true, if_false, ite_true, ite_false, Bool.false_eq_true, Bool.not_true, Bool.not_false, hc, ca])]
  rfl
theorem cLen_s {n : Nat} {s : List Nat} (hs : isSd n s) : cLen [pat s] = some (.int (n : Int)) := by
  show some (PyData.int ((nums s).length : Nat)) = _
  rw [nums_length, hs.len]
theorem check_size_ok {n : Nat} (hn : Sz n) {s p : List Nat} (hs : isSd n s) (hp : isP n p) : m_check_size [pat s, pat p] = some .none := by
  unfold m_check_size
  rw [run_eq]
  show outO (b_check_size [.dat (pat s), .dat (pat p)]) = _
  unfold b_check_size
  rw [sIfN_f (by simp only [v_var, v_own, v_varOf, v_ownOf, v_c, v_1, v_2, v_nil, v_cons, v_call, v_tup, v_lst, v_toL, v_ofL, v_toB, v_ofB, v_not, v_and, v_or, v_if, v_chain, v_ixL, v_part, v_tupL, v_l2, v_yes, v_mNil, v_mDat, v_mOwn, v_divmod, v_asL, v_asT, v_asB, v_asI, v_add, v_sub, v_neg, v_lt, v_le, v_gt, v_ge, v_isB, v_notB, v_isN, v_notN, v_isNi, v_isNn, bS, lineOk0, dIx_l, dIx_t, cLen_l, cLen_t, asSeq_l, asSeq_t, wipeD, setM, List.getElem?_cons_zero, List.getElem?_cons_succ, List.set_cons_zero, List.set_cons_succ, if_true, if_false, ite_true, ite_false, Bool.false_eq_true, Bool.not_true, Bool.not_false, cLen_s hs, cLen_pat hp, dNe_self (Sh.int (k := 0) (n : Int))])]
  rfl
theorem keeps_sides_ok {n : Nat} (hn : Sz n) {s p : List Nat} (hs : isSd n s) (hp : isP n p) : m_keeps_sides [pat s, pat p] = some (.bool (keepB n s p)) := by
  unfold m_keeps_sides
  rw [run_eq]
  show outO (b_keeps_sides [.dat (pat s), .dat (pat p)]) = _
  unfold b_keeps_sides
  rw [sSeq_nx (sExpr_ok (d := .none) (by simp only [v_var, v_own, v_varOf, v_ownOf, v_c, v_1, v_2, v_nil, v_cons, v_call, v_tup, v_lst, v_toL, v_ofL, v_toB, v_ofB, v_not, v_and, v_or, v_if, v_chain, v_ixL, v_part, v_tupL, v_l2, v_yes, v_mNil, v_mDat, v_mOwn, v_divmod, v_asL, v_asT, v_asB, v_asI, v_add, v_sub, v_neg, v_lt, v_le, v_gt, v_ge, v_isB, v_notB, v_isN, v_notN, v_isNi, v_isNn, bS, lineOk0, dIx_l, dIx_t, cLen_l, cLen_t, asSeq_l, asSeq_t, wipeD, setM, List.getElem?_cons_zero, List.getElem?_cons_succ, List.set_cons_zero, List.set_cons_succ, if_true, if_false, ite_true, ite_false, Bool.false_eq_true, Bool.not_true, Bool.not_false, check_sides_ok hn hs])), sSeq_nx (sExpr_ok (d := .none) (by simp only [v_var, v_own, v_varOf, v_ownOf, v_c, v_1, v_2, v_nil, v_cons, v_call, v_tup, v_lst, v_toL, v_ofL, v_toB, v_ofB, v_not, v_and, v_or, v_if, v_chain, v_ixL, v_part, v_tupL, v_l2, v_yes, v_mNil, v_mDat, v_mOwn, v_divmod, v_asL, v_asT, v_asB, v_asI, v_add, v_sub, v_neg, v_lt, v_le, v_gt, v_ge, v_isB, v_notB, v_isN, v_notN, v_isNi, v_isNn, bS, lineOk0, dIx_l, dIx_t, cLen_l, cLen_t, asSeq_l, asSeq_t, wipeD, setM, List.getElem?_cons_zero, List.getElem?_cons_succ, List.set_cons_zero, List.set_cons_succ, if_true, if_false, ite_true, ite_false, Bool.false_eq_true, Bool.not_true, Bool.not_false, check_pattern_ok hn hp])), sSeq_nx (sExpr_ok (d := .none) (by simp only [v_var, v_own, v_varOf, v_ownOf, v_c, v_1, v_2, v_nil, v_cons, v_call, v_tup, v_lst, v_toL, v_ofL, v_toB, v_ofB, v_not, v_and, v_or, v_if, v_chain, v_ixL, v_part, v_tupL, v_l2, v_yes, v_mNil, v_mDat, v_mOwn, v_divmod, v_asL, v_asT, v_asB, v_asI, v_add, v_sub, v_neg, v_lt, v_le, v_gt, v_ge, v_isB, v_notB, v_isN, v_notN, v_isNi, v_isNn, bS, lineOk0, dIx_l, dIx_t, cLen_l, cLen_t, asSeq_l, asSeq_t, wipeD, setM, List.getElem?_cons_zero, List.getElem?_cons_succ, List.set_cons_zero, List.set_cons_succ, if_true, if_false, ite_true, ite_false, Bool.false_eq_true, Bool.not_true, Bool.not_false, check_size_ok hn hs hp])), sRet_ok (d := .bool (keepB n s p)) (by simp only [v_var, v_own, v_varOf, v_ownOf, v_c, v_1, v_2, v_nil, v_cons, v_call, v_tup, v_lst, v_toL, v_ofL, v_toB, v_ofB, v_not, v_and, v_or, v_if, v_chain, v_ixL, v_part, v_tupL, v_l2, v_yes, v_mNil, v_mDat, v_mOwn, v_divmod, v_asL, v_asT, v_asB, v_asI, v_add, v_sub, v_neg, v_lt, v_le, v_gt, v_ge, v_isB, v_notB, v_isN, v_notN, v_isNi, v_isNn, bS, lineOk0, dIx_l, dIx_t, cLen_l, cLen_t, asSeq_l, asSeq_t, wipeD, setM, List.getElem?_cons_zero, List.getElem?_cons_succ, List.set_cons_zero, List.set_cons_succ, if_true, if_false, ite_true, ite_false, Bool.false_eq_true, Bool.not_true, Bool.not_false, does_keep_ok hn hs hp])]
  rfl
/-! ### the first change -/
def chg (n : Nat) (ps : List (List Nat)) (s : List Nat) (t k : Nat) : Bool := !decide (s.getD ((P n ps k).getD t 0) 0 = s.getD t 0)
def fch (n : Nat) (ps : List (List Nat)) (s : List Nat) (t : Nat) : D := match (List.range (T n ps)).find? (chg n ps s t) with
  | some k => .int ((k + 1 : Nat) : Int)
  | none => .none
theorem enum_upto (m : Nat) (f : Nat → D) : enumL (upto m f) = (List.range m).map fun (i : Nat) => PyData.tuple [.int (i : Int), f i] := by
  unfold enumL
  apply List.ext_getElem?
  intro i
  rw [List.getElem?_zipWith, List.getElem?_map, upto_len]
  unfold upto
  rw [List.getElem?_map]
  by_cases hi : i < m
  · rw [List.getElem?_range hi]; rfl
  · rw [List.getElem?_eq_none (l := List.range m) (by rw [List.length_range]; omega)]; rfl
theorem forD_nx' {h : D → DE → Option DE} {b : DS} {d : D} {ds : List D} {ρ ρ1 ρ2 : DE} (e1 : h d ρ = some ρ1) (e2 : b ρ1 = .nx ρ2) : forD h b (d :: ds) ρ = forD h b ds ρ2 := by
  conv => lhs; unfold forD
  simp only [e1, e2]
theorem forD_ret' {h : D → DE → Option DE} {b : DS} {d r : D} {ds : List D} {ρ ρ1 : DE} (e1 : h d ρ = some ρ1) (e2 : b ρ1 = .ret r) : forD h b (d :: ds) ρ = .ret r := by
  conv => lhs; unfold forD
  simp only [e1, e2]
theorem first_loop {n : Nat} (hn : Sz n) {ps : List (List Nat)} (h : isPr n ps) {s : List Nat} (hs : isSd n s) {t : Nat} (ht : t < n) : ∀ (xs : List Nat) (z3 z4 : DV),
    (∃ k, xs.find? (chg n ps s t) = some k ∧ forD (hTup (hsCons (hName 3) (hsCons (hName 4) hsNil))) (sIf (e2 dNe (e2 dIx (eVar 0) (e2 dIx (eVar 4) (eVar 2))) (e2 dIx (eVar 0) (eVar 2))) (sRet (e2 dAdd (eVar 3) (eC (.int 1)))) sNext) (xs.map fun (i : Nat) => PyData.tuple [.int (i : Int), pat (P n ps i)]) [.dat (pat s), .dat (prog ps), .dat (.int (t : Int)), z3, z4] = .ret (.int ((k + 1 : Nat) : Int))) ∨
    (xs.find? (chg n ps s t) = none ∧ ∃ z3' z4' : DV, forD (hTup (hsCons (hName 3) (hsCons (hName 4) hsNil))) (sIf (e2 dNe (e2 dIx (eVar 0) (e2 dIx (eVar 4) (eVar 2))) (e2 dIx (eVar 0) (eVar 2))) (sRet (e2 dAdd (eVar 3) (eC (.int 1)))) sNext) (xs.map fun (i : Nat) => PyData.tuple [.int (i : Int), pat (P n ps i)]) [.dat (pat s), .dat (prog ps), .dat (.int (t : Int)), z3, z4] = .nx [.dat (pat s), .dat (prog ps), .dat (.int (t : Int)), z3', z4'])
  | [], z3, z4 => .inr ⟨rfl, z3, z4, rfl⟩
  | k :: xs, z3, z4 => by
    have hc : (e2 dNe (e2 dIx (eVar 0) (e2 dIx (eVar 4) (eVar 2))) (e2 dIx (eVar 0) (eVar 2))) [.dat (pat s), .dat (prog ps), .dat (.int (t : Int)), .dat (.int (k : Int)), .dat (pat (P n ps k))] = some (chg n ps s t k) := by
      simp only [v_var, v_own, v_varOf, v_ownOf, v_c, v_1, v_2, v_nil, v_cons, v_call, v_tup, v_lst, v_toL, v_ofL, v_toB, v_ofB, v_not, v_and, v_or, v_if, v_chain, v_ixL, v_part, v_tupL, v_l2, v_yes, v_mNil, v_mDat, v_mOwn, v_divmod, v_asL, v_asT, v_asB, v_asI, v_add, v_sub, v_neg, v_lt, v_le, v_gt, v_ge, v_isB, v_notB, v_isN, v_notN, v_isNi, v_isNn, bS, lineOk0, dIx_l, dIx_t, cLen_l, cLen_t, asSeq_l, asSeq_t, wipeD, setM, List.getElem?_cons_zero, List.getElem?_cons_succ, List.set_cons_zero, List.set_cons_succ, if_true, if_false, ite_true, ite_false, Bool.false_eq_true, Bool.not_true, Bool.not_false, dIx_p (P_P h k) ht, dIx_s hs (getD_lt (P_P h k) ht), dIx_s hs ht, dNe_int, decN]
      rfl
    rw [List.map_cons]
    cases hf : chg n ps s t k with
    | true =>
      refine .inl ⟨k, List.find?_cons_of_pos hf, forD_ret' (ρ1 := [.dat (pat s), .dat (prog ps), .dat (.int (t : Int)), .dat (.int (k : Int)), .dat (pat (P n ps k))]) rfl ?_⟩
      have e1 : dAdd (.int (k : Int)) (.int 1) = some (.int ((k + 1 : Nat) : Int)) := addN k 1
      rw [sIf_t (hc.trans (by rw [hf])), sRet_ok (d := .int ((k + 1 : Nat) : Int)) (by simp only [v_var, v_own, v_varOf, v_ownOf, v_c, v_1, v_2, v_nil, v_cons, v_call, v_tup, v_lst, v_toL, v_ofL, v_toB, v_ofB, v_not, v_and, v_or, v_if, v_chain, v_ixL, v_part, v_tupL, v_l2, v_yes, v_mNil, v_mDat, v_mOwn, v_divmod, v_asL, v_asT, v_asB, v_asI, v_add, v_sub, v_neg, v_lt, v_le, v_gt, v_ge, v_isB, v_notB, v_isN, v_notN, v_isNi, v_isNn, bS, lineOk0, dIx_l, dIx_t, cLen_l, cLen_t, asSeq_l, asSeq_t, wipeD, setM, List.getElem?_cons_zero, List.getElem?_cons_succ, List.set_cons_zero, List.set_cons_succ, if_true, if_false, ite_true, ite_false, Bool.false_eq_true, Bool.not_true, Bool.not_false, e1, - v_add])]
    | false =>
      rw [forD_nx' (ρ1 := [.dat (pat s), .dat (prog ps), .dat (.int (t : Int)), .dat (.int (k : Int)), .dat (pat (P n ps k))]) rfl (sIfN_f (hc.trans (by rw [hf]))), List.find?_cons_of_neg (by rw [hf]; exact Bool.false_ne_true)]
      exact first_loop hn h hs ht xs _ _
theorem first_change_ok {n : Nat} (hn : Sz n) {ps : List (List Nat)} (h : isPr n ps) {s : List Nat} (hs : isSd n s) {t : Nat} (ht : t < n) : m_first_change [pat s, prog ps, .int (t : Int)] = some (fch n ps s t) := by
  unfold m_first_change
  rw [run_eq]
  show outO (b_first_change [.dat (pat s), .dat (prog ps), .dat (.int (t : Int)), .bot, .bot]) = _
  unfold b_first_change
  rw [sSeq_nx (sExpr_ok (d := .none) (by simp only [v_var, v_own, v_varOf, v_ownOf, v_c, v_1, v_2, v_nil, v_cons, v_call, v_tup, v_lst, v_toL, v_ofL, v_toB, v_ofB, v_not, v_and, v_or, v_if, v_chain, v_ixL, v_part, v_tupL, v_l2, v_yes, v_mNil, v_mDat, v_mOwn, v_divmod, v_asL, v_asT, v_asB, v_asI, v_add, v_sub, v_neg, v_lt, v_le, v_gt, v_ge, v_isB, v_notB, v_isN, v_notN, v_isNi, v_isNn, bS, lineOk0, dIx_l, dIx_t, cLen_l, cLen_t, asSeq_l, asSeq_t, wipeD, setM, List.getElem?_cons_zero, List.getElem?_cons_succ, List.set_cons_zero, List.set_cons_succ, if_true, if_false, ite_true, ite_false, Bool.false_eq_true, Bool.not_true, Bool.not_false, check_sides_ok hn hs])), sSeq_nx (sExpr_ok (d := .none) (by simp only [v_var, v_own, v_varOf, v_ownOf, v_c, v_1, v_2, v_nil, v_cons, v_call, v_tup, v_lst, v_toL, v_ofL, v_toB, v_ofB, v_not, v_and, v_or, v_if, v_chain, v_ixL, v_part, v_tupL, v_l2, v_yes, v_mNil, v_mDat, v_mOwn, v_divmod, v_asL, v_asT, v_asB, v_asI, v_add, v_sub, v_neg, v_lt, v_le, v_gt, v_ge, v_isB, v_notB, v_isN, v_notN, v_isNi, v_isNn, bS, lineOk0, dIx_l, dIx_t, cLen_l, cLen_t, asSeq_l, asSeq_t, wipeD, setM, List.getElem?_cons_zero, List.getElem?_cons_succ, List.set_cons_zero, List.set_cons_succ, if_true, if_false, ite_true, ite_false, Bool.false_eq_true, Bool.not_true, Bool.not_false, check_program_ok hn h])), sSeq_nx (sExpr_ok (d := .none) (by simp only [v_var, v_own, v_varOf, v_ownOf, v_c, v_1, v_2, v_nil, v_cons, v_call, v_tup, v_lst, v_toL, v_ofL, v_toB, v_ofB, v_not, v_and, v_or, v_if, v_chain, v_ixL, v_part, v_tupL, v_l2, v_yes, v_mNil, v_mDat, v_mOwn, v_divmod, v_asL, v_asT, v_asB, v_asI, v_add, v_sub, v_neg, v_lt, v_le, v_gt, v_ge, v_isB, v_notB, v_isN, v_notN, v_isNi, v_isNn, bS, lineOk0, dIx_l, dIx_t, cLen_l, cLen_t, asSeq_l, asSeq_t, wipeD, setM, List.getElem?_cons_zero, List.getElem?_cons_succ, List.set_cons_zero, List.set_cons_succ, if_true, if_false, ite_true, ite_false, Bool.false_eq_true, Bool.not_true, Bool.not_false, dIx_prog0 h.pos, check_size_ok hn hs (nth_P h h.pos)])),
    sSeq_nx (sExpr_ok (d := .none) (by simp only [v_var, v_own, v_varOf, v_ownOf, v_c, v_1, v_2, v_nil, v_cons, v_call, v_tup, v_lst, v_toL, v_ofL, v_toB, v_ofB, v_not, v_and, v_or, v_if, v_chain, v_ixL, v_part, v_tupL, v_l2, v_yes, v_mNil, v_mDat, v_mOwn, v_divmod, v_asL, v_asT, v_asB, v_asI, v_add, v_sub, v_neg, v_lt, v_le, v_gt, v_ge, v_isB, v_notB, v_isN, v_notN, v_isNi, v_isNn, bS, lineOk0, dIx_l, dIx_t, cLen_l, cLen_t, asSeq_l, asSeq_t, wipeD, setM, List.getElem?_cons_zero, List.getElem?_cons_succ, List.set_cons_zero, List.set_cons_succ, if_true, if_false, ite_true, ite_false, Bool.false_eq_true, Bool.not_true, Bool.not_false, check_tyre_ok h ht]))]
  have hz : e1 dEnum (eCall m_full_turn (eCons (eVar 1) eNil)) [.dat (pat s), .dat (prog ps), .dat (.int (t : Int)), .bot, .bot] = some ((List.range (T n ps)).map fun (i : Nat) => PyData.tuple [.int (i : Int), pat (P n ps i)]) :=
    e1_ok (d := .list (upto (T n ps) fun k => pat (P n ps k))) (by simp only [v_var, v_own, v_varOf, v_ownOf, v_c, v_1, v_2, v_nil, v_cons, v_call, v_tup, v_lst, v_toL, v_ofL, v_toB, v_ofB, v_not, v_and, v_or, v_if, v_chain, v_ixL, v_part, v_tupL, v_l2, v_yes, v_mNil, v_mDat, v_mOwn, v_divmod, v_asL, v_asT, v_asB, v_asI, v_add, v_sub, v_neg, v_lt, v_le, v_gt, v_ge, v_isB, v_notB, v_isN, v_notN, v_isNi, v_isNn, bS, lineOk0, dIx_l, dIx_t, cLen_l, cLen_t, asSeq_l, asSeq_t, wipeD, setM, List.getElem?_cons_zero, List.getElem?_cons_succ, List.set_cons_zero, List.set_cons_succ, if_true, if_false, ite_true, ite_false, Bool.false_eq_true, Bool.not_true, Bool.not_false, full_turn_ok hn h]) (by
      show some (enumL (upto (T n ps) fun k => pat (P n ps k))) = _
      rw [enum_upto])
  unfold fch
  rcases first_loop hn h hs ht (List.range (T n ps)) .bot .bot with ⟨k, h1, h2⟩ | ⟨h1, z3, z4, h2⟩
  · rw [h1, sSeq_ret ((sFor_ok hz).trans h2)]
    rfl
  · rw [h1, sSeq_nx ((sFor_ok hz).trans h2)]
    rfl
theorem Sh.fch (n : Nat) (ps : List (List Nat)) (s : List Nat) (t : Nat) : Sh 0 (DL.fch n ps s t) := by
  unfold DL.fch
  split
  · exact Sh.int _
  · exact Sh.none
/-! ### always -/
/-- allowed patterns -/
def alw (ps : List (List Nat)) : D := .list (ps.map pat)
theorem asSeq_alw (ps : List (List Nat)) : asSeq (alw ps) = some (ps.map pat) := rfl
theorem cLen_alw (ps : List (List Nat)) : cLen [alw ps] = some (.int (ps.length : Int)) := by
  show some (PyData.int ((ps.map pat).length : Nat)) = _
  rw [List.length_map]
theorem isK_alw (ps : List (List Nat)) : dIsK "list" (alw ps) = some true := rfl
theorem dIx_alw0 {ps : List (List Nat)} (h : 0 < ps.length) : dIx (alw ps) (.int 0) = some (pat (nth ps 0)) := by
  have := dIx_prog0 h
  exact this
theorem are_patterns_alw {n : Nat} (hn : Sz n) {ps : List (List Nat)} (h : isPr n ps) : m_are_patterns [alw ps] = some (.bool true) := by
  unfold m_are_patterns
  rw [run_eq]
  show outO (b_are_patterns [.dat (alw ps), .bot]) = _
  unfold b_are_patterns
  have h1 : eLc [1] (e1 asSeq (eVar 0)) (hName 1) eYes (eCall m_is_pattern (eCons (eVar 1) eNil)) [.dat (alw ps), .bot] = some (ps.map fun _ => PyData.bool true) :=
    lc_map pat _ (Nat.le_trans h.le (by decide)) (by simp only [v_var, v_own, v_varOf, v_ownOf, v_c, v_1, v_2, v_nil, v_cons, v_call, v_tup, v_lst, v_toL, v_ofL, v_toB, v_ofB, v_not, v_and, v_or, v_if, v_chain, v_ixL, v_part, v_tupL, v_l2, v_yes, v_mNil, v_mDat, v_mOwn, v_divmod, v_asL, v_asT, v_asB, v_asI, v_add, v_sub, v_neg, v_lt, v_le, v_gt, v_ge, v_isB, v_notB, v_isN, v_notN, v_isNi, v_isNn, bS, lineOk0, dIx_l, dIx_t, cLen_l, cLen_t, asSeq_l, asSeq_t, wipeD, setM, List.getElem?_cons_zero, List.getElem?_cons_succ, List.set_cons_zero, List.set_cons_succ, if_true, if_false, ite_true, ite_false, Bool.false_eq_true, Bool.not_true, Bool.not_false, asSeq_alw]) fun p hp => by
      simp only [v_var, v_own, v_varOf, v_ownOf, v_c, v_1, v_2, v_nil, v_cons, v_call, v_tup, v_lst, v_toL, v_ofL, v_toB, v_ofB, v_not, v_and, v_or, v_if, v_chain, v_ixL, v_part, v_tupL, v_l2, v_yes, v_mNil, v_mDat, v_mOwn, v_divmod, v_asL, v_asT, v_asB, v_asI, v_add, v_sub, v_neg, v_lt, v_le, v_gt, v_ge, v_isB, v_notB, v_isN, v_notN, v_isNi, v_isNn, bS, lineOk0, dIx_l, dIx_t, cLen_l, cLen_t, asSeq_l, asSeq_t, wipeD, setM, List.getElem?_cons_zero, List.getElem?_cons_succ, List.set_cons_zero, List.set_cons_succ, if_true, if_false, ite_true, ite_false, Bool.false_eq_true, Bool.not_true, Bool.not_false, is_pattern_ok hn (h.all p hp)]
  have h2 : eLc [1] (e1 asSeq (eVar 0)) (hName 1) eYes (eCall cLen (eCons (eVar 1) eNil)) [.dat (alw ps), .bot] = some (ps.map fun _ => PyData.int (n : Int)) :=
    lc_map pat _ (Nat.le_trans h.le (by decide)) (by simp only [v_var, v_own, v_varOf, v_ownOf, v_c, v_1, v_2, v_nil, v_cons, v_call, v_tup, v_lst, v_toL, v_ofL, v_toB, v_ofB, v_not, v_and, v_or, v_if, v_chain, v_ixL, v_part, v_tupL, v_l2, v_yes, v_mNil, v_mDat, v_mOwn, v_divmod, v_asL, v_asT, v_asB, v_asI, v_add, v_sub, v_neg, v_lt, v_le, v_gt, v_ge, v_isB, v_notB, v_isN, v_notN, v_isNi, v_isNn, bS, lineOk0, dIx_l, dIx_t, cLen_l, cLen_t, asSeq_l, asSeq_t, wipeD, setM, List.getElem?_cons_zero, List.getElem?_cons_succ, List.set_cons_zero, List.set_cons_succ, if_true, if_false, ite_true, ite_false, Bool.false_eq_true, Bool.not_true, Bool.not_false, asSeq_alw]) fun p hp => by
      simp only [v_var, v_own, v_varOf, v_ownOf, v_c, v_1, v_2, v_nil, v_cons, v_call, v_tup, v_lst, v_toL, v_ofL, v_toB, v_ofB, v_not, v_and, v_or, v_if, v_chain, v_ixL, v_part, v_tupL, v_l2, v_yes, v_mNil, v_mDat, v_mOwn, v_divmod, v_asL, v_asT, v_asB, v_asI, v_add, v_sub, v_neg, v_lt, v_le, v_gt, v_ge, v_isB, v_notB, v_isN, v_notN, v_isNi, v_isNn, bS, lineOk0, dIx_l, dIx_t, cLen_l, cLen_t, asSeq_l, asSeq_t, wipeD, setM, List.getElem?_cons_zero, List.getElem?_cons_succ, List.set_cons_zero, List.set_cons_succ, if_true, if_false, ite_true, ite_false, Bool.false_eq_true, Bool.not_true, Bool.not_false, cLen_pat (h.all p hp)]
  have l1 : (1 : Int) ≤ (ps.length : Int) := by have := h.pos; omega
  have l4 : (ps.length : Int) ≤ 4 := by have := h.le; omega
  have ca := cAll_map ps (fun _ => true)
  have hall : ps.all (fun _ => true) = true := List.all_eq_true.mpr fun _ _ => rfl
  rw [hall] at ca
  rw [sSeq_nx (sIfN_f (by simp only [v_var, v_own, v_varOf, v_ownOf, v_c, v_1, v_2, v_nil, v_cons, v_call, v_tup, v_lst, v_toL, v_ofL, v_toB, v_ofB, v_not, v_and, v_or, v_if, v_chain, v_ixL, v_part, v_tupL, v_l2, v_yes, v_mNil, v_mDat, v_mOwn, v_divmod, v_asL, v_asT, v_asB, v_asI, v_add, v_sub, v_neg, v_lt, v_le, v_gt, v_ge, v_isB, v_notB, v_isN, v_notN, v_isNi, v_isNn, bS, lineOk0, dIx_l, dIx_t, cLen_l, cLen_t, asSeq_l, asSeq_t, wipeD, setM, List.getElem?_cons_zero, List.getElem?_cons_succ, List.set_cons_zero, List.set_cons_succ, if_true, if_false, ite_true, ite_false, Bool.false_eq_true, Bool.not_true, Bool.not_false, cLen_alw, l1, l4, decide_true, h1, ca]))]
  rw [sRet_ok (d := .bool true) (by
    simp only [v_var, v_own, v_varOf, v_ownOf, v_c, v_1, v_2, v_nil, v_cons, v_call, v_tup, v_lst, v_toL, v_ofL, v_toB, v_ofB, v_not, v_and, v_or, v_if, v_chain, v_ixL, v_part, v_tupL, v_l2, v_yes, v_mNil, v_mDat, v_mOwn, v_divmod, v_asL, v_asT, v_asB, v_asI, v_add, v_sub, v_neg, v_lt, v_le, v_gt, v_ge, v_isB, v_notB, v_isN, v_notN, v_isNi, v_isNn, bS, lineOk0, dIx_l, dIx_t, cLen_l, cLen_t, asSeq_l, asSeq_t, wipeD, setM, List.getElem?_cons_zero, List.getElem?_cons_succ, List.set_cons_zero, List.set_cons_succ, if_true, if_false, ite_true, ite_false, Bool.false_eq_true, Bool.not_true, Bool.not_false, h2]
    rw [map_const ps, lenSet_same h.pos h.le, bS, dEq_self (Sh.int (k := 0) 1), bS])]
  rfl
theorem check_allowed_ok {n : Nat} (hn : Sz n) {ps : List (List Nat)} (h : isPr n ps) : m_check_allowed [alw ps] = some .none := by
  unfold m_check_allowed
  rw [run_eq]
  show outO (b_check_allowed [.dat (alw ps)]) = _
  unfold b_check_allowed
  rw [sIfN_f (by simp only [v_var, v_own, v_varOf, v_ownOf, v_c, v_1, v_2, v_nil, v_cons, v_call, v_tup, v_lst, v_toL, v_ofL, v_toB, v_ofB, v_not, v_and, v_or, v_if, v_chain, v_ixL, v_part, v_tupL, v_l2, v_yes, v_mNil, v_mDat, v_mOwn, v_divmod, v_asL, v_asT, v_asB, v_asI, v_add, v_sub, v_neg, v_lt, v_le, v_gt, v_ge, v_isB, v_notB, v_isN, v_notN, v_isNi, v_isNn, bS, lineOk0, dIx_l, dIx_t, cLen_l, cLen_t, asSeq_l, asSeq_t, wipeD, setM, List.getElem?_cons_zero, List.getElem?_cons_succ, List.set_cons_zero, List.set_cons_succ, if_true, if_false, ite_true, ite_false, Bool.false_eq_true, Bool.not_true, Bool.not_false, isK_alw, are_patterns_alw hn h])]
  rfl
theorem always_keep_ok {n : Nat} (hn : Sz n) {ps : List (List Nat)} (h : isPr n ps) {s : List Nat} (hs : isSd n s) : m_always_keep [pat s, alw ps] = some (.bool (ps.all fun p => keepB n s p)) := by
  unfold m_always_keep
  rw [run_eq]
  show outO (b_always_keep [.dat (pat s), .dat (alw ps), .bot]) = _
  unfold b_always_keep
  have h1 : eLc [2] (e1 asSeq (eVar 1)) (hName 2) eYes (eCall m_does_keep (eCons (eVar 0) (eCons (eVar 2) eNil))) [.dat (pat s), .dat (alw ps), .bot] = some (ps.map fun p => PyData.bool (keepB n s p)) :=
    lc_map pat _ (Nat.le_trans h.le (by decide)) (by simp only [v_var, v_own, v_varOf, v_ownOf, v_c, v_1, v_2, v_nil, v_cons, v_call, v_tup, v_lst, v_toL, v_ofL, v_toB, v_ofB, v_not, v_and, v_or, v_if, v_chain, v_ixL, v_part, v_tupL, v_l2, v_yes, v_mNil, v_mDat, v_mOwn, v_divmod, v_asL, v_asT, v_asB, v_asI, v_add, v_sub, v_neg, v_lt, v_le, v_gt, v_ge, v_isB, v_notB, v_isN, v_notN, v_isNi, v_isNn, bS, lineOk0, dIx_l, dIx_t, cLen_l, cLen_t, asSeq_l, asSeq_t, wipeD, setM, List.getElem?_cons_zero, List.getElem?_cons_succ, List.set_cons_zero, List.set_cons_succ, if_true, if_false, ite_true, ite_false, Bool.false_eq_true, Bool.not_true, Bool.not_false, asSeq_alw]) fun p hp => by
      simp only [v_var, v_own, v_varOf, v_ownOf, v_c, v_1, v_2, v_nil, v_cons, v_call, v_tup, v_lst, v_toL, v_ofL, v_toB, v_ofB, v_not, v_and, v_or, v_if, v_chain, v_ixL, v_part, v_tupL, v_l2, v_yes, v_mNil, v_mDat, v_mOwn, v_divmod, v_asL, v_asT, v_asB, v_asI, v_add, v_sub, v_neg, v_lt, v_le, v_gt, v_ge, v_isB, v_notB, v_isN, v_notN, v_isNi, v_isNn, bS, lineOk0, dIx_l, dIx_t, cLen_l, cLen_t, asSeq_l, asSeq_t, wipeD, setM, List.getElem?_cons_zero, List.getElem?_cons_succ, List.set_cons_zero, List.set_cons_succ, if_true, if_false, ite_true, ite_false, Bool.false_eq_true, Bool.not_true, Bool.not_false, does_keep_ok hn hs (h.all p hp)]
  rw [sSeq_nx (sExpr_ok (d := .none) (by simp only [v_var, v_own, v_varOf, v_ownOf, v_c, v_1, v_2, v_nil, v_cons, v_call, v_tup, v_lst, v_toL, v_ofL, v_toB, v_ofB, v_not, v_and, v_or, v_if, v_chain, v_ixL, v_part, v_tupL, v_l2, v_yes, v_mNil, v_mDat, v_mOwn, v_divmod, v_asL, v_asT, v_asB, v_asI, v_add, v_sub, v_neg, v_lt, v_le, v_gt, v_ge, v_isB, v_notB, v_isN, v_notN, v_isNi, v_isNn, bS, lineOk0, dIx_l, dIx_t, cLen_l, cLen_t, asSeq_l, asSeq_t, wipeD, setM, List.getElem?_cons_zero, List.getElem?_cons_succ, List.set_cons_zero, List.set_cons_succ, if_true, if_false, ite_true, ite_false, Bool.false_eq_true, Bool.not_true, Bool.not_false, check_sides_ok hn hs])), sSeq_nx (sExpr_ok (d := .none) (by simp only [v_var, v_own, v_varOf, v_ownOf, v_c, v_1, v_2, v_nil, v_cons, v_call, v_tup, v_lst, v_toL, v_ofL, v_toB, v_ofB, v_not, v_and, v_or, v_if, v_chain, v_ixL, v_part, v_tupL, v_l2, v_yes, v_mNil, v_mDat, v_mOwn, v_divmod, v_asL, v_asT, v_asB, v_asI, v_add, v_sub, v_neg, v_lt, v_le, v_gt, v_ge, v_isB, v_notB, v_isN, v_notN, v_isNi, v_isNn, bS, lineOk0, dIx_l, dIx_t, cLen_l, cLen_t, asSeq_l, asSeq_t, wipeD, setM, List.getElem?_cons_zero, List.getElem?_cons_succ, List.set_cons_zero, List.set_cons_succ, if_true, if_false, ite_true, ite_false, Bool.false_eq_true, Bool.not_true, Bool.not_false, check_allowed_ok hn h])), sSeq_nx (sExpr_ok (d := .none) (by simp only [v_var, v_own, v_varOf, v_ownOf, v_c, v_1, v_2, v_nil, v_cons, v_call, v_tup, v_lst, v_toL, v_ofL, v_toB, v_ofB, v_not, v_and, v_or, v_if, v_chain, v_ixL, v_part, v_tupL, v_l2, v_yes, v_mNil, v_mDat, v_mOwn, v_divmod, v_asL, v_asT, v_asB, v_asI, v_add, v_sub, v_neg, v_lt, v_le, v_gt, v_ge, v_isB, v_notB, v_isN, v_notN, v_isNi, v_isNn, bS, lineOk0, dIx_l, dIx_t, cLen_l, cLen_t, asSeq_l, asSeq_t, wipeD, setM, List.getElem?_cons_zero, List.getElem?_cons_succ, List.set_cons_zero, List.set_cons_succ, if_true, if_false, ite_true, ite_false, Bool.false_eq_true, Bool.not_true, Bool.not_false, dIx_alw0 h.pos, check_size_ok hn hs (nth_P h h.pos)])),
    sRet_ok (d := .bool (ps.all fun p => keepB n s p)) (by simp only [v_var, v_own, v_varOf, v_ownOf, v_c, v_1, v_2, v_nil, v_cons, v_call, v_tup, v_lst, v_toL, v_ofL, v_toB, v_ofB, v_not, v_and, v_or, v_if, v_chain, v_ixL, v_part, v_tupL, v_l2, v_yes, v_mNil, v_mDat, v_mOwn, v_divmod, v_asL, v_asT, v_asB, v_asI, v_add, v_sub, v_neg, v_lt, v_le, v_gt, v_ge, v_isB, v_notB, v_isN, v_notN, v_isNi, v_isNn, bS, lineOk0, dIx_l, dIx_t, cLen_l, cLen_t, asSeq_l, asSeq_t, wipeD, setM, List.getElem?_cons_zero, List.getElem?_cons_succ, List.set_cons_zero, List.set_cons_succ, if_true, if_false, ite_true, ite_false, Bool.false_eq_true, Bool.not_true, Bool.not_false, h1, cAll_map ps fun p => keepB n s p])]
  rfl
/-! ### moves keep sides -/
theorem keep_id {n : Nat} (s : List Nat) : keepB n s (idp n) = true := keepB_iff.mpr fun t ht => by rw [idp_get ht]
theorem keep_move {n : Nat} (hn : Sz n) {s a p : List Nat} (ha : isP n a) (hp : isP n p) (h1 : keepB n s a = true) (h2 : keepB n s p = true) : keepB n s (comb (inv p) a) = true := by
  have hi := (inv_facts hn hp).1
  have e : comb (inv p) p = idp n := (inv_facts hn hp).2.2.1
  rw [keepB_iff] at h1 h2 ⊢
  intro t ht
  have ht' : t < (inv p).length := by rw [hi.len]; exact ht
  have hx := getD_lt hi ht
  rw [comb_get a ht', ← h1 _ hx, h2 _ hx]
  have : (comb (inv p) p).getD t 0 = t := by rw [e, idp_get ht]
  rw [comb_get p ht'] at this
  rw [this]
theorem keep_inv {n : Nat} (hn : Sz n) {s p : List Nat} (hp : isP n p) (h : keepB n s (inv p) = true) : keepB n s p = true := by
  have hi := (inv_facts hn hp).1
  have := keep_move hn (idp_P n) hi (keep_id s) h
  rw [comb_id (inv_facts hn hi).1, (inv_facts hn hp).2.2.2] at this
  exact this
end DL

namespace DL
open PySem PySem.Spec L2
/-! ### what can be reached -/
inductive Rch (n : Nat) (ps : List (List Nat)) : List Nat → Prop
  | id : Rch n ps (idp n)
  | step {a p : List Nat} : Rch n ps a → p ∈ ps → Rch n ps (comb (inv p) a)
theorem Rch.P {n : Nat} (hn : Sz n) {ps : List (List Nat)} (h : isPr n ps) {a : List Nat} (r : Rch n ps a) : isP n a := by
  induction r with
  | id => exact idp_P n
  | step _ hp ih => exact comb_P (inv_facts hn (h.all _ hp)).1 ih
theorem nodup_le {α : Type} [DecidableEq α] : ∀ {L M : List α}, L.Nodup → (∀ x ∈ L, x ∈ M) → L.length ≤ M.length
  | [], _, _, _ => Nat.zero_le _
  | x :: L, M, h, hs => by
    obtain ⟨h1, h2⟩ := List.nodup_cons.mp h
    have hx := hs x List.mem_cons_self
    have := nodup_le (L := L) (M := M.erase x) h2 fun y hy => (List.mem_erase_of_ne fun (z : y = x) => h1 (z ▸ hy)).mpr (hs y (List.mem_cons_of_mem _ hy))
    rw [List.length_erase_of_mem hx] at this
    have hp : 0 < M.length := List.length_pos_of_mem hx
    rw [List.length_cons]
    omega
theorem nodup_snoc {α : Type} {l : List α} (h : l.Nodup) {x : α} (hx : x ∉ l) : (l ++ [x]).Nodup := by
  rw [List.nodup_append]
  exact ⟨h, by simp, fun a ha b hb e => hx (by rw [List.mem_singleton.mp hb] at e; exact e ▸ ha)⟩
theorem pats_len {n : Nat} (hn : Sz n) : (pats n).length ≤ 120 := by rcases hn with rfl | rfl | rfl <;> decide +kernel
theorem few_P {n : Nat} (hn : Sz n) {L : List (List Nat)} (hd : L.Nodup) (hP : ∀ a ∈ L, isP n a) : L.length ≤ 120 := Nat.le_trans (nodup_le hd fun a ha => (hP a ha).mem) (pats_len hn)
theorem any_pats (L : List (List Nat)) (x : List Nat) : ((L.map pat).any fun z => PyData.eqv z (pat x)) = decide (x ∈ L) := by
  refine Bool.eq_iff_iff.mpr ?_
  rw [List.any_eq_true, decide_eq_true_iff]
  constructor
  · rintro ⟨z, hz, e⟩
    obtain ⟨y, hy, rfl⟩ := List.mem_map.mp hz
    rw [eqv_pat] at e
    rw [← of_decide_eq_true e]; exact hy
  · intro h
    exact ⟨pat x, List.mem_map_of_mem h, by rw [eqv_pat]; exact decide_eq_true rfl⟩
theorem sh_pl (L : List (List Nat)) : Sh 2 (.list (L.map pat)) := Sh.list fun d hd => by
  obtain ⟨p, _, rfl⟩ := List.mem_map.mp hd
  exact Sh.pat p
theorem dNotIn_pl (L : List (List Nat)) (x : List Nat) : dNotIn (pat x) (.list (L.map pat)) = some (!decide (x ∈ L)) := by
  have h1 : SeqAt.shaped (pat x) = true := (Sh.pat x).ok
  have h2 : SeqAt.shaped (.list (L.map pat)) = true := (sh_pl L).ok
  unfold dNotIn dIn
  simp only [h1, h2, Bool.and_self, if_true]
  rw [bS, any_pats]
theorem dNe_pl (L : List (List Nat)) : dNe (.list (L.map pat)) (.list []) = some (!decide (L = [])) := by
  unfold dNe
  rw [dEq_sh (sh_pl L) (Sh.list (k := 0) fun d hd => by cases hd), bS]
  refine congrArg (fun z => some (!z)) ?_
  cases L with
  | nil => simp [PyData.eqv, PyData.eqvAll]
  | cons a L => simp [PyData.eqv, PyData.eqvAll]
theorem lCat_pl (L R : List (List Nat)) (h : (L ++ R).length ≤ 1000) : lCat (L.map pat) (R.map pat) = some ((L ++ R).map pat) := by
  rw [List.length_append] at h
  rw [List.map_append]
  show (if (L.map pat).length + (R.map pat).length ≤ 16777216 then some (L.map pat ++ R.map pat) else none) = _
  rw [if_pos (by rw [List.length_map, List.length_map]; omega)]
theorem dAdd_pl (L R : List (List Nat)) (h : (L ++ R).length ≤ 1000) : dAdd (.list (L.map pat)) (.list (R.map pat)) = some (.list ((L ++ R).map pat)) := by
  rw [List.length_append] at h
  rw [List.map_append]
  show (if (L.map pat).length + (R.map pat).length ≤ 16777216 then some (PyData.list (L.map pat ++ R.map pat)) else none) = _
  rw [if_pos (by rw [List.length_map, List.length_map]; omega)]
/-- amid a round: L known, R new -/
structure Lv (n : Nat) (ps L R : List (List Nat)) : Prop where
  nd : (L ++ R).Nodup
  rc : ∀ a ∈ L ++ R, Rch n ps a
theorem Lv.few {n : Nat} (hn : Sz n) {ps L R : List (List Nat)} (h : isPr n ps) (v : Lv n ps L R) : (L ++ R).length ≤ 120 := few_P hn v.nd fun a ha => (v.rc a ha).P hn h
theorem Lv.add {n : Nat} {ps L R : List (List Nat)} (v : Lv n ps L R) {x : List Nat} (hx : x ∉ L ++ R) (r : Rch n ps x) : Lv n ps L (R ++ [x]) := by
  refine ⟨by rw [← List.append_assoc]; exact nodup_snoc v.nd hx, fun a ha => ?_⟩
  rw [← List.append_assoc] at ha
  rcases List.mem_append.mp ha with ha | ha
  · exact v.rc a ha
  · rw [List.mem_singleton.mp ha]; exact r
def bIn : DS := (sSeq (sSet 6 (eCall m__law_moved (eCons (eVar 4) (eCons (eVar 5) eNil))))
  (sIf (e2 dNotIn (eVar 6) (eOfL (l2 lCat (eToL (eVar 1)) (eOwn 3))))
  (sApp 3 (eVar 6))
  sNext))
theorem in_ok {n : Nat} (hn : Sz n) {ps : List (List Nat)} (h : isPr n ps) {L M R : List (List Nat)} (v : Lv n ps L R) {a p : List Nat} (ha : Rch n ps a) (hp : p ∈ ps) (z6 : DV) :
    ∃ R', Lv n ps L R' ∧ (∀ x ∈ L ++ R, x ∈ L ++ R') ∧ comb (inv p) a ∈ L ++ R' ∧ bIn [.dat (alw ps), .dat (.list (L.map pat)), .dat (.list (M.map pat)), .own (R.map pat), .dat (pat a), .dat (pat p), z6] = .nx [.dat (alw ps), .dat (.list (L.map pat)), .dat (.list (M.map pat)), .own (R'.map pat), .dat (pat a), .dat (pat p), .dat (pat (comb (inv p) a))] := by
  have hb := v.few hn h
  have hc : (e2 dNotIn (eVar 6) (eOfL (l2 lCat (eToL (eVar 1)) (eOwn 3)))) [.dat (alw ps), .dat (.list (L.map pat)), .dat (.list (M.map pat)), .own (R.map pat), .dat (pat a), .dat (pat p), .dat (pat (comb (inv p) a))] = some (!decide (comb (inv p) a ∈ L ++ R)) := by
    simp only [v_var, v_own, v_varOf, v_ownOf, v_c, v_1, v_2, v_nil, v_cons, v_call, v_tup, v_lst, v_toL, v_ofL, v_toB, v_ofB, v_not, v_and, v_or, v_if, v_chain, v_ixL, v_part, v_tupL, v_l2, v_yes, v_mNil, v_mDat, v_mOwn, v_divmod, v_asL, v_asT, v_asB, v_asI, v_add, v_sub, v_neg, v_lt, v_le, v_gt, v_ge, v_isB, v_notB, v_isN, v_notN, v_isNi, v_isNn, bS, lineOk0, dIx_l, dIx_t, cLen_l, cLen_t, asSeq_l, asSeq_t, wipeD, setM, List.getElem?_cons_zero, List.getElem?_cons_succ, List.set_cons_zero, List.set_cons_succ, if_true, if_false, ite_true, ite_false, Bool.false_eq_true, Bool.not_true, Bool.not_false, lCat_pl L R (by omega), dNotIn_pl]
  unfold bIn
  have e1 : sSet 6 (eCall m__law_moved (eCons (eVar 4) (eCons (eVar 5) eNil))) [.dat (alw ps), .dat (.list (L.map pat)), .dat (.list (M.map pat)), .own (R.map pat), .dat (pat a), .dat (pat p), z6] = .nx [.dat (alw ps), .dat (.list (L.map pat)), .dat (.list (M.map pat)), .own (R.map pat), .dat (pat a), .dat (pat p), .dat (pat (comb (inv p) a))] :=
    sSet_ok (d := pat (comb (inv p) a)) (by simp only [v_var, v_own, v_varOf, v_ownOf, v_c, v_1, v_2, v_nil, v_cons, v_call, v_tup, v_lst, v_toL, v_ofL, v_toB, v_ofB, v_not, v_and, v_or, v_if, v_chain, v_ixL, v_part, v_tupL, v_l2, v_yes, v_mNil, v_mDat, v_mOwn, v_divmod, v_asL, v_asT, v_asB, v_asI, v_add, v_sub, v_neg, v_lt, v_le, v_gt, v_ge, v_isB, v_notB, v_isN, v_notN, v_isNi, v_isNn, bS, lineOk0, dIx_l, dIx_t, cLen_l, cLen_t, asSeq_l, asSeq_t, wipeD, setM, List.getElem?_cons_zero, List.getElem?_cons_succ, List.set_cons_zero, List.set_cons_succ, if_true, if_false, ite_true, ite_false, Bool.false_eq_true, Bool.not_true, Bool.not_false, moved_ok hn (ha.P hn h) (h.all p hp)])
  rw [sSeq_nx e1]
  by_cases hm : comb (inv p) a ∈ L ++ R
  · exact ⟨R, v, fun _ hx => hx, hm, sIfN_f (hc.trans (by rw [decide_eq_true hm]; rfl))⟩
  · refine ⟨R ++ [comb (inv p) a], v.add hm (.step ha hp), fun x hx => by rw [← List.append_assoc]; exact List.mem_append_left _ hx, by rw [← List.append_assoc]; exact List.mem_append_right _ List.mem_cons_self, ?_⟩
    rw [sIf_t (hc.trans (by rw [decide_eq_false hm]; rfl)), sApp_ok (d := pat (comb (inv p) a)) (by simp only [v_var, v_own, v_varOf, v_ownOf, v_c, v_1, v_2, v_nil, v_cons, v_call, v_tup, v_lst, v_toL, v_ofL, v_toB, v_ofB, v_not, v_and, v_or, v_if, v_chain, v_ixL, v_part, v_tupL, v_l2, v_yes, v_mNil, v_mDat, v_mOwn, v_divmod, v_asL, v_asT, v_asB, v_asI, v_add, v_sub, v_neg, v_lt, v_le, v_gt, v_ge, v_isB, v_notB, v_isN, v_notN, v_isNi, v_isNn, bS, lineOk0, dIx_l, dIx_t, cLen_l, cLen_t, asSeq_l, asSeq_t, wipeD, setM, List.getElem?_cons_zero, List.getElem?_cons_succ, List.set_cons_zero, List.set_cons_succ, if_true, if_false, ite_true, ite_false, Bool.false_eq_true, Bool.not_true, Bool.not_false]) rfl (by rw [List.length_map]; rw [List.length_append] at hb; omega), List.map_append]
    rfl
theorem mid_ok {n : Nat} (hn : Sz n) {ps : List (List Nat)} (h : isPr n ps) {L M R : List (List Nat)} (v : Lv n ps L R) {a : List Nat} (ha : Rch n ps a) (z5 z6 : DV) :
    ∃ R' z5' z6', Lv n ps L R' ∧ (∀ x ∈ L ++ R, x ∈ L ++ R') ∧ (∀ p ∈ ps, comb (inv p) a ∈ L ++ R') ∧ sFor (e1 asSeq (eVar 0)) (hName 5) bIn [.dat (alw ps), .dat (.list (L.map pat)), .dat (.list (M.map pat)), .own (R.map pat), .dat (pat a), z5, z6] = .nx [.dat (alw ps), .dat (.list (L.map pat)), .dat (.list (M.map pat)), .own (R'.map pat), .dat (pat a), z5', z6'] := by
  obtain ⟨ρ', h1, ⟨R', y5, y6, v', k1, k2, rfl⟩⟩ := for_inv (h := hName 5) (b := bIn) (fun i ρ => ∃ R' z5 z6, Lv n ps L R' ∧ (∀ x ∈ L ++ R, x ∈ L ++ R') ∧ (∀ j, j < i → ∀ p, ps[j]? = some p → comb (inv p) a ∈ L ++ R') ∧ ρ = [.dat (alw ps), .dat (.list (L.map pat)), .dat (.list (M.map pat)), .own (R'.map pat), .dat (pat a), z5, z6])
    (ds := ps.map pat) (k := 0) (ρ := [.dat (alw ps), .dat (.list (L.map pat)), .dat (.list (M.map pat)), .own (R.map pat), .dat (pat a), z5, z6]) ⟨R, z5, z6, v, fun _ hx => hx, fun j hj => absurd hj (Nat.not_lt_zero _), rfl⟩
    (fun i d ρ hd ⟨R1, z5, z6, v1, k1, k2, e⟩ => by
      subst e
      obtain ⟨hi, rfl⟩ := range_get' (u := pat) hd
      rw [Nat.zero_add] at k2 ⊢
      obtain ⟨R2, v2, k3, k4, e⟩ := in_ok hn h (M := M) v1 ha (List.getElem_mem hi) z6
      refine ⟨[.dat (alw ps), .dat (.list (L.map pat)), .dat (.list (M.map pat)), .own (R1.map pat), .dat (pat a), .dat (pat ps[i]), z6], _, rfl, .inl e, R2, _, _, v2, fun x hx => k3 x (k1 x hx), fun j hj p hp => ?_, rfl⟩
      by_cases e : j = i
      · subst e
        rw [List.getElem?_eq_getElem hi] at hp
        cases hp
        exact k4
      · exact k3 _ (k2 j (by omega) p hp))
  rw [Nat.zero_add, List.length_map] at k2
  refine ⟨R', y5, y6, v', k1, fun p hp => ?_, (sFor_ok (ds := ps.map pat) (by simp only [v_var, v_own, v_varOf, v_ownOf, v_c, v_1, v_2, v_nil, v_cons, v_call, v_tup, v_lst, v_toL, v_ofL, v_toB, v_ofB, v_not, v_and, v_or, v_if, v_chain, v_ixL, v_part, v_tupL, v_l2, v_yes, v_mNil, v_mDat, v_mOwn, v_divmod, v_asL, v_asT, v_asB, v_asI, v_add, v_sub, v_neg, v_lt, v_le, v_gt, v_ge, v_isB, v_notB, v_isN, v_notN, v_isNi, v_isNn, bS, lineOk0, dIx_l, dIx_t, cLen_l, cLen_t, asSeq_l, asSeq_t, wipeD, setM, List.getElem?_cons_zero, List.getElem?_cons_succ, List.set_cons_zero, List.set_cons_succ, if_true, if_false, ite_true, ite_false, Bool.false_eq_true, Bool.not_true, Bool.not_false, asSeq_alw])).trans h1⟩
  obtain ⟨j, hj, rfl⟩ := List.getElem_of_mem hp
  exact k2 j hj _ (List.getElem?_eq_getElem hj)
theorem round_ok {n : Nat} (hn : Sz n) {ps : List (List Nat)} (h : isPr n ps) {L M : List (List Nat)} (v : Lv n ps L []) (hM : ∀ a ∈ M, a ∈ L) (z4 z5 z6 : DV) :
    ∃ R z4' z5' z6', Lv n ps L R ∧ (∀ a ∈ M, ∀ p ∈ ps, comb (inv p) a ∈ L ++ R) ∧ sFor (e1 asSeq (eVar 2)) (hName 4) (sFor (e1 asSeq (eVar 0)) (hName 5) bIn) [.dat (alw ps), .dat (.list (L.map pat)), .dat (.list (M.map pat)), .own [], z4, z5, z6] = .nx [.dat (alw ps), .dat (.list (L.map pat)), .dat (.list (M.map pat)), .own (R.map pat), z4', z5', z6'] := by
  obtain ⟨ρ', h1, ⟨R', y4, y5, y6, v', k2, rfl⟩⟩ := for_inv (h := hName 4) (b := sFor (e1 asSeq (eVar 0)) (hName 5) bIn) (fun i ρ => ∃ R' z4 z5 z6, Lv n ps L R' ∧ (∀ j, j < i → ∀ a, M[j]? = some a → ∀ p ∈ ps, comb (inv p) a ∈ L ++ R') ∧ ρ = [.dat (alw ps), .dat (.list (L.map pat)), .dat (.list (M.map pat)), .own (R'.map pat), z4, z5, z6])
    (ds := M.map pat) (k := 0) (ρ := [.dat (alw ps), .dat (.list (L.map pat)), .dat (.list (M.map pat)), .own [], z4, z5, z6]) ⟨[], z4, z5, z6, v, fun j hj => absurd hj (Nat.not_lt_zero _), rfl⟩
    (fun i d ρ hd ⟨R1, z4, z5, z6, v1, k2, e⟩ => by
      subst e
      obtain ⟨hi, rfl⟩ := range_get' (u := pat) hd
      rw [Nat.zero_add] at k2 ⊢
      have hr : Rch n ps M[i] := v.rc _ (List.mem_append_left _ (hM _ (List.getElem_mem hi)))
      obtain ⟨R2, y5, y6, v2, k3, k4, e⟩ := mid_ok hn h (M := M) v1 hr z5 z6
      refine ⟨[.dat (alw ps), .dat (.list (L.map pat)), .dat (.list (M.map pat)), .own (R1.map pat), .dat (pat M[i]), z5, z6], _, rfl, .inl e, R2, _, _, _, v2, fun j hj a ha p hp => ?_, rfl⟩
      by_cases e : j = i
      · subst e
        rw [List.getElem?_eq_getElem hi] at ha
        cases ha
        exact k4 p hp
      · exact k3 _ (k2 j (by omega) a ha p hp))
  rw [Nat.zero_add, List.length_map] at k2
  refine ⟨R', y4, y5, y6, v', fun a ha p hp => ?_, (sFor_ok (ds := M.map pat) (by simp only [v_var, v_own, v_varOf, v_ownOf, v_c, v_1, v_2, v_nil, v_cons, v_call, v_tup, v_lst, v_toL, v_ofL, v_toB, v_ofB, v_not, v_and, v_or, v_if, v_chain, v_ixL, v_part, v_tupL, v_l2, v_yes, v_mNil, v_mDat, v_mOwn, v_divmod, v_asL, v_asT, v_asB, v_asI, v_add, v_sub, v_neg, v_lt, v_le, v_gt, v_ge, v_isB, v_notB, v_isN, v_notN, v_isNi, v_isNn, bS, lineOk0, dIx_l, dIx_t, cLen_l, cLen_t, asSeq_l, asSeq_t, wipeD, setM, List.getElem?_cons_zero, List.getElem?_cons_succ, List.set_cons_zero, List.set_cons_succ, if_true, if_false, ite_true, ite_false, Bool.false_eq_true, Bool.not_true, Bool.not_false])).trans h1⟩
  obtain ⟨j, hj, rfl⟩ := List.getElem_of_mem ha
  exact k2 j hj _ (List.getElem?_eq_getElem hj) p hp
def lenAt (i : Nat) (ρ : DE) : Nat := match ρ[i]? with
  | some (.dat (.list ds)) => ds.length
  | _ => 0
/-- all that is found -/
structure Clo (n : Nat) (ps L : List (List Nat)) : Prop where
  nd : L.Nodup
  rc : ∀ a ∈ L, Rch n ps a
  id : idp n ∈ L
  cl : ∀ a ∈ L, ∀ p ∈ ps, comb (inv p) a ∈ L
theorem Clo.all {n : Nat} {ps L : List (List Nat)} (c : Clo n ps L) {a : List Nat} (r : Rch n ps a) : a ∈ L := by
  induction r with
  | id => exact c.id
  | step _ hp ih => exact c.cl _ ih _ hp
theorem reached_ok {n : Nat} (hn : Sz n) {ps : List (List Nat)} (h : isPr n ps) : ∃ L, Clo n ps L ∧ m__law_reached [alw ps] = some (.list (L.map pat)) := by
  unfold m__law_reached
  simp only [run_eq]
  show ∃ L, Clo n ps L ∧ outO (b__law_reached [.dat (alw ps), .bot, .bot, .bot, .bot, .bot, .bot]) = some (.list (L.map pat))
  unfold b__law_reached
  have h5 := hn.le
  have s1 : sSet 1 (eOfL (eLst (eCons (eTupL (rgN (eCall cLen (eCons (e2 dIx (eVar 0) (eC (.int 0))) eNil)))) eNil))) [.dat (alw ps), .bot, .bot, .bot, .bot, .bot, .bot] = .nx [.dat (alw ps), .dat (.list ([idp n].map pat)), .bot, .bot, .bot, .bot, .bot] :=
    sSet_ok (d := .list [pat (idp n)]) (by
      have e0 : eTupL (rgN (eCall cLen (eCons (e2 dIx (eVar 0) (eC (.int 0))) eNil))) [.dat (alw ps), .bot, .bot, .bot, .bot, .bot, .bot] = some (pat (idp n)) := by
        rw [v_tupL, rgN_ok n (by omega) (by simp only [v_var, v_own, v_varOf, v_ownOf, v_c, v_1, v_2, v_nil, v_cons, v_call, v_tup, v_lst, v_toL, v_ofL, v_toB, v_ofB, v_not, v_and, v_or, v_if, v_chain, v_ixL, v_part, v_tupL, v_l2, v_yes, v_mNil, v_mDat, v_mOwn, v_divmod, v_asL, v_asT, v_asB, v_asI, v_add, v_sub, v_neg, v_lt, v_le, v_gt, v_ge, v_isB, v_notB, v_isN, v_notN, v_isNi, v_isNn, bS, lineOk0, dIx_l, dIx_t, cLen_l, cLen_t, asSeq_l, asSeq_t, wipeD, setM, List.getElem?_cons_zero, List.getElem?_cons_succ, List.set_cons_zero, List.set_cons_succ, if_true, if_false, ite_true, ite_false, Bool.false_eq_true, Bool.not_true, Bool.not_false, dIx_alw0 h.pos, cLen_pat (nth_P h h.pos)]), bS]; rfl
      rw [v_ofL, v_lst, v_cons, e0, bS, v_nil, bS, bS, lineOk1, bS])
  rw [sSeq_nx s1]
  have s2 : sSet 2 (eOfL (e1 asSeq (eVar 1))) [.dat (alw ps), .dat (.list ([idp n].map pat)), .bot, .bot, .bot, .bot, .bot] = .nx [.dat (alw ps), .dat (.list ([idp n].map pat)), .dat (.list ([idp n].map pat)), .bot, .bot, .bot, .bot] := sSet_ok (d := .list ([idp n].map pat)) (by simp only [v_var, v_own, v_varOf, v_ownOf, v_c, v_1, v_2, v_nil, v_cons, v_call, v_tup, v_lst, v_toL, v_ofL, v_toB, v_ofB, v_not, v_and, v_or, v_if, v_chain, v_ixL, v_part, v_tupL, v_l2, v_yes, v_mNil, v_mDat, v_mOwn, v_divmod, v_asL, v_asT, v_asB, v_asI, v_add, v_sub, v_neg, v_lt, v_le, v_gt, v_ge, v_isB, v_notB, v_isN, v_notN, v_isNi, v_isNn, bS, lineOk0, dIx_l, dIx_t, cLen_l, cLen_t, asSeq_l, asSeq_t, wipeD, setM, List.getElem?_cons_zero, List.getElem?_cons_succ, List.set_cons_zero, List.set_cons_succ, if_true, if_false, ite_true, ite_false, Bool.false_eq_true, Bool.not_true, Bool.not_false])
  rw [sSeq_nx s2]
  have hcond : ∀ (L M : List (List Nat)) (z3 z4 z5 z6 : DV), e2 dNe (eVar 2) (eOfL (eLst eNil)) [.dat (alw ps), .dat (.list (L.map pat)), .dat (.list (M.map pat)), z3, z4, z5, z6] = some (!decide (M = [])) := fun L M z3 z4 z5 z6 => by simp only [v_var, v_own, v_varOf, v_ownOf, v_c, v_1, v_2, v_nil, v_cons, v_call, v_tup, v_lst, v_toL, v_ofL, v_toB, v_ofB, v_not, v_and, v_or, v_if, v_chain, v_ixL, v_part, v_tupL, v_l2, v_yes, v_mNil, v_mDat, v_mOwn, v_divmod, v_asL, v_asT, v_asB, v_asI, v_add, v_sub, v_neg, v_lt, v_le, v_gt, v_ge, v_isB, v_notB, v_isN, v_notN, v_isNi, v_isNn, bS, lineOk0, dIx_l, dIx_t, cLen_l, cLen_t, asSeq_l, asSeq_t, wipeD, setM, List.getElem?_cons_zero, List.getElem?_cons_succ, List.set_cons_zero, List.set_cons_succ, if_true, if_false, ite_true, ite_false, Bool.false_eq_true, Bool.not_true, Bool.not_false, dNe_pl]
  obtain ⟨ρ', h2, ⟨L, M, z3, z4, z5, z6, v, hM, hid, hcl, rfl⟩, hend⟩ := while_inv (c := e2 dNe (eVar 2) (eOfL (eLst eNil))) (b := (sSeq (sOwn 3 (eLst eNil)) (sSeq (sFor (e1 asSeq (eVar 2)) (hName 4) (sFor (e1 asSeq (eVar 0)) (hName 5) bIn)) (sFz 3 (sPar [1, 2] (mDat (e2 dAdd (eVar 1) (eVar 3)) (mDat (eVar 3) mNil)))))))
    (fun ρ => ∃ (L M : List (List Nat)) (z3 z4 z5 z6 : DV), Lv n ps L [] ∧ (∀ a ∈ M, a ∈ L) ∧ idp n ∈ L ∧ (∀ a ∈ L, a ∉ M → ∀ p ∈ ps, comb (inv p) a ∈ L) ∧ ρ = [.dat (alw ps), .dat (.list (L.map pat)), .dat (.list (M.map pat)), z3, z4, z5, z6])
    (fun ρ => 2 * (121 - lenAt 1 ρ) + (if lenAt 2 ρ = 0 then 0 else 1))
    (fun ρ ⟨L, M, z3, z4, z5, z6, v, hM, hid, hcl, e⟩ => by
      subst e
      rw [hcond]
      by_cases hm : M = []
      · rw [decide_eq_true hm]; exact .inl rfl
      · rw [decide_eq_false hm]
        obtain ⟨R, y4, y5, y6, v', k2, e⟩ := round_ok hn h v hM z4 z5 z6
        have hb := v'.few hn h
        refine .inr ⟨rfl, [.dat (alw ps), .dat (.list ((L ++ R).map pat)), .dat (.list (R.map pat)), .dat (.list (R.map pat)), y4, y5, y6], .inl ?_, ⟨L ++ R, R, _, _, _, _, ?_, fun a ha => List.mem_append_right _ ha, List.mem_append_left _ hid, fun a ha hR p hp => ?_, rfl⟩, ?_⟩
        · rw [sSeq_nx (sOwn_ok (d := []) (by simp only [v_var, v_own, v_varOf, v_ownOf, v_c, v_1, v_2, v_nil, v_cons, v_call, v_tup, v_lst, v_toL, v_ofL, v_toB, v_ofB, v_not, v_and, v_or, v_if, v_chain, v_ixL, v_part, v_tupL, v_l2, v_yes, v_mNil, v_mDat, v_mOwn, v_divmod, v_asL, v_asT, v_asB, v_asI, v_add, v_sub, v_neg, v_lt, v_le, v_gt, v_ge, v_isB, v_notB, v_isN, v_notN, v_isNi, v_isNn, bS, lineOk0, dIx_l, dIx_t, cLen_l, cLen_t, asSeq_l, asSeq_t, wipeD, setM, List.getElem?_cons_zero, List.getElem?_cons_succ, List.set_cons_zero, List.set_cons_succ, if_true, if_false, ite_true, ite_false, Bool.false_eq_true, Bool.not_true, Bool.not_false]))]
          simp only [setM, List.set_cons_succ, List.set_cons_zero]
          rw [sSeq_nx e, sFz_ok rfl]
          simp only [setM, List.set_cons_succ, List.set_cons_zero]
          rw [sPar_ok (xs := [.dat (.list ((L ++ R).map pat)), .dat (.list (R.map pat))]) (by simp only [v_var, v_own, v_varOf, v_ownOf, v_c, v_1, v_2, v_nil, v_cons, v_call, v_tup, v_lst, v_toL, v_ofL, v_toB, v_ofB, v_not, v_and, v_or, v_if, v_chain, v_ixL, v_part, v_tupL, v_l2, v_yes, v_mNil, v_mDat, v_mOwn, v_divmod, v_asL, v_asT, v_asB, v_asI, v_add, v_sub, v_neg, v_lt, v_le, v_gt, v_ge, v_isB, v_notB, v_isN, v_notN, v_isNi, v_isNn, bS, lineOk0, dIx_l, dIx_t, cLen_l, cLen_t, asSeq_l, asSeq_t, wipeD, setM, List.getElem?_cons_zero, List.getElem?_cons_succ, List.set_cons_zero, List.set_cons_succ, if_true, if_false, ite_true, ite_false, Bool.false_eq_true, Bool.not_true, Bool.not_false, dAdd_pl L R (by omega)])]
          rfl
        · exact ⟨by rw [List.append_nil]; exact v'.nd, fun a ha => v'.rc a (by rw [List.append_nil] at ha; exact ha)⟩
        · rcases List.mem_append.mp ha with ha | ha
          · by_cases hMa : a ∈ M
            · exact k2 a hMa p hp
            · exact List.mem_append_left _ (hcl a ha hMa p hp)
          · exact absurd ha hR
        · show 2 * (121 - ((L ++ R).map pat).length) + (if (R.map pat).length = 0 then 0 else 1) < 2 * (121 - (L.map pat).length) + (if (M.map pat).length = 0 then 0 else 1)
          have hMl : M.length ≠ 0 := fun z => hm (List.eq_nil_of_length_eq_zero z)
          rw [List.length_append] at hb
          simp only [List.length_map, List.length_append]
          rw [if_neg hMl]
          by_cases hr : R.length = 0
          · rw [if_pos hr]; omega
          · rw [if_neg hr]; omega) FUEL [.dat (alw ps), .dat (.list ([idp n].map pat)), .dat (.list ([idp n].map pat)), .bot, .bot, .bot, .bot]
    ⟨[idp n], [idp n], _, _, _, _, ⟨by simp, fun a ha => by
      have : a = idp n := by simpa using ha
      rw [this]; exact .id⟩, fun a ha => ha, List.mem_cons_self, fun a ha hn' => absurd ha hn', rfl⟩ (by
      show 2 * (121 - 1) + 1 < 100000
      omega)
  rw [hcond] at hend
  have hm : M = [] := by
    by_cases hm : M = []
    · exact hm
    · rw [decide_eq_false hm] at hend; cases hend
  subst hm
  refine ⟨L, ⟨by have := v.nd; rw [List.append_nil] at this; exact this, fun a ha => v.rc a (List.mem_append_left _ ha), hid, fun a ha p hp => hcl a ha (fun z => by cases z) p hp⟩, ?_⟩
  have h2' := h2
  refine (congrArg outO (sSeq_nx h2')).trans ?_
  rw [sRet_ok (d := .list (L.map pat)) (by simp only [v_var, v_own, v_varOf, v_ownOf, v_c, v_1, v_2, v_nil, v_cons, v_call, v_tup, v_lst, v_toL, v_ofL, v_toB, v_ofB, v_not, v_and, v_or, v_if, v_chain, v_ixL, v_part, v_tupL, v_l2, v_yes, v_mNil, v_mDat, v_mOwn, v_divmod, v_asL, v_asT, v_asB, v_asI, v_add, v_sub, v_neg, v_lt, v_le, v_gt, v_ge, v_isB, v_notB, v_isN, v_notN, v_isNi, v_isNn, bS, lineOk0, dIx_l, dIx_t, cLen_l, cLen_t, asSeq_l, asSeq_t, wipeD, setM, List.getElem?_cons_zero, List.getElem?_cons_succ, List.set_cons_zero, List.set_cons_succ, if_true, if_false, ite_true, ite_false, Bool.false_eq_true, Bool.not_true, Bool.not_false])]
  rfl
end DL

namespace DL
open PySem PySem.Spec L2
/-! ### all that can be reached, with the first of the shortest rows: plainly -/
abbrev ZT := List (List Nat × List Nat)
abbrev Mv := List Nat → List Nat → List Nat
def rowOf (Z : ZT) (x : List Nat) : List Nat := ((Z.find? fun y => decide (y.1 = x)).map (·.2)).getD []
def hasZ (Z : ZT) (x : List Nat) : Bool := (Z.find? fun y => decide (y.1 = x)).isSome
def keysZ (Z : ZT) : List (List Nat) := Z.map (·.1)
def bnode (mv : Mv) (x : List Nat) : List (Nat × List Nat) → ZT × List (List Nat) → ZT × List (List Nat)
  | [], s => s
  | ip :: r, s => if hasZ s.1 (mv x ip.2) = true then bnode mv x r s else bnode mv x r (s.1 ++ [(mv x ip.2, rowOf s.1 x ++ [ip.1])], s.2 ++ [mv x ip.2])
def enumP (ps : List (List Nat)) : List (Nat × List Nat) := (List.range ps.length).map fun i => (i, nth ps i)
def blevel (mv : Mv) (ps : List (List Nat)) : List (List Nat) → ZT × List (List Nat) → ZT × List (List Nat)
  | [], s => s
  | x :: r, s => blevel mv ps r (bnode mv x (enumP ps) s)
def brun (mv : Mv) (ps : List (List Nat)) : Nat → ZT → List (List Nat) → ZT
  | 0, Z, _ => Z
  | m + 1, Z, l => if l = [] then Z else brun mv ps m (blevel mv ps l (Z, [])).1 (blevel mv ps l (Z, [])).2
theorem hasZ_mem {Z : ZT} {x : List Nat} : hasZ Z x = true ↔ x ∈ keysZ Z := by
  unfold hasZ keysZ
  rw [List.find?_isSome]
  constructor
  · rintro ⟨y, hy, e⟩
    exact List.mem_map.mpr ⟨y, hy, of_decide_eq_true e⟩
  · intro h
    obtain ⟨y, hy, e⟩ := List.mem_map.mp h
    exact ⟨y, hy, decide_eq_true e⟩
theorem keysZ_app (Z W : ZT) : keysZ (Z ++ W) = keysZ Z ++ keysZ W := List.map_append
structure GoodZ (n : Nat) (Z : ZT) (lat : List (List Nat)) : Prop where
  nd : (keysZ Z).Nodup
  P : ∀ x ∈ keysZ Z, isP n x
  row : ∀ y ∈ Z, y.2.length ≤ Z.length
  lat : lat.length ≤ Z.length
theorem GoodZ.few {n : Nat} (hn : Sz n) {Z : ZT} {lat : List (List Nat)} (g : GoodZ n Z lat) : Z.length ≤ 120 := by
  have := few_P hn g.nd g.P
  unfold keysZ at this
  rw [List.length_map] at this
  exact this
theorem rowOf_mem {Z : ZT} {x : List Nat} (h : hasZ Z x = true) : ∃ y ∈ Z, y.1 = x ∧ Z.find? (fun y => decide (y.1 = x)) = some y ∧ rowOf Z x = y.2 := by
  unfold hasZ at h
  obtain ⟨y, e⟩ := Option.isSome_iff_exists.mp h
  refine ⟨y, List.mem_of_find?_eq_some e, of_decide_eq_true (List.find?_some (p := fun y : List Nat × List Nat => decide (y.1 = x)) e), e, ?_⟩
  unfold rowOf
  rw [e]; rfl
theorem find_nodup : ∀ {Z : ZT}, (keysZ Z).Nodup → ∀ {y : List Nat × List Nat}, y ∈ Z → Z.find? (fun z => decide (z.1 = y.1)) = some y
  | [], _, _, hy => by cases hy
  | z :: Z, hd, y, hy => by
    have hd' : (z.1 :: keysZ Z).Nodup := hd
    obtain ⟨h1, h2⟩ := List.nodup_cons.mp hd'
    rcases List.mem_cons.mp hy with rfl | hy
    · simp [List.find?_cons]
    · have : z.1 ≠ y.1 := fun e => h1 (e ▸ List.mem_map_of_mem hy)
      simp only [List.find?_cons, decide_eq_false this]
      exact find_nodup h2 hy
theorem GoodZ.add {n : Nat} {Z : ZT} {lat : List (List Nat)} (g : GoodZ n Z lat) {x y : List Nat} {i : Nat} (hx : hasZ Z x = true) (hy : ¬ hasZ Z y = true) (hP : isP n y) : GoodZ n (Z ++ [(y, rowOf Z x ++ [i])]) (lat ++ [y]) := by
  have hl : (Z ++ [(y, rowOf Z x ++ [i])]).length = Z.length + 1 := by rw [List.length_append]; rfl
  refine ⟨?_, fun z hz => ?_, fun z hz => ?_, ?_⟩
  · rw [keysZ_app]
    exact nodup_snoc g.nd fun h => hy (hasZ_mem.mpr h)
  · rw [keysZ_app] at hz
    rcases List.mem_append.mp hz with hz | hz
    · exact g.P z hz
    · have : z = y := by simpa [keysZ] using hz
      rw [this]; exact hP
  · rw [hl]
    rcases List.mem_append.mp hz with hz | hz
    · exact Nat.le_succ_of_le (g.row z hz)
    · rw [List.mem_singleton.mp hz]
      obtain ⟨w, hw, _, _, e⟩ := rowOf_mem hx
      have := g.row w hw
      rw [e, List.length_append]
      show w.2.length + 1 ≤ _
      omega
  · rw [hl, List.length_append]
    have := g.lat
    show lat.length + 1 ≤ _
    omega
/-- what a node's turn does to the keys -/
theorem bnode_keys (mv : Mv) (x : List Nat) : ∀ (l : List (Nat × List Nat)) (s : ZT × List (List Nat)), ∃ new, keysZ (bnode mv x l s).1 = keysZ s.1 ++ new ∧ (bnode mv x l s).2 = s.2 ++ new ∧ (∀ y ∈ new, ∃ ip ∈ l, y = mv x ip.2) ∧ ∀ ip ∈ l, mv x ip.2 ∈ keysZ (bnode mv x l s).1
  | [], s => ⟨[], (List.append_nil (keysZ s.1)).symm, (List.append_nil s.2).symm, (fun y hy => by cases hy), (fun ip h => by cases h)⟩
  | ip :: l, s => by
    unfold bnode
    by_cases h : hasZ s.1 (mv x ip.2) = true
    · rw [if_pos h]
      obtain ⟨new, e1, e2, e3, e4⟩ := bnode_keys mv x l s
      refine ⟨new, e1, e2, fun y hy => ?_, fun jp hj => ?_⟩
      · obtain ⟨q, hq, e⟩ := e3 y hy
        exact ⟨q, List.mem_cons_of_mem _ hq, e⟩
      · rcases List.mem_cons.mp hj with rfl | hj
        · rw [e1]; exact List.mem_append_left _ (hasZ_mem.mp h)
        · exact e4 jp hj
    · rw [if_neg h]
      obtain ⟨new, e1, e2, e3, e4⟩ := bnode_keys mv x l (s.1 ++ [(mv x ip.2, rowOf s.1 x ++ [ip.1])], s.2 ++ [mv x ip.2])
      refine ⟨mv x ip.2 :: new, ?_, ?_, fun y hy => ?_, fun jp hj => ?_⟩
      · rw [e1, keysZ_app, List.append_assoc]; rfl
      · rw [e2, List.append_assoc]; rfl
      · rcases List.mem_cons.mp hy with rfl | hy
        · exact ⟨ip, List.mem_cons_self, rfl⟩
        · obtain ⟨q, hq, e⟩ := e3 y hy
          exact ⟨q, List.mem_cons_of_mem _ hq, e⟩
      · rcases List.mem_cons.mp hj with rfl | hj
        · rw [e1, keysZ_app]
          exact List.mem_append_left _ (List.mem_append_right _ (by simp [keysZ]))
        · exact e4 jp hj
theorem enumP_mem {ps : List (List Nat)} {ip : Nat × List Nat} (h : ip ∈ enumP ps) : ip.2 ∈ ps ∧ ip.1 < ps.length := by
  obtain ⟨i, hi, rfl⟩ := List.mem_map.mp h
  have hi := List.mem_range.mp hi
  refine ⟨?_, hi⟩
  show nth ps i ∈ ps
  unfold nth
  rw [List.getD_eq_getElem?_getD, List.getElem?_eq_getElem hi]
  exact List.getElem_mem hi
theorem enumP_all {ps : List (List Nat)} {p : List Nat} (h : p ∈ ps) : ∃ ip ∈ enumP ps, ip.2 = p := by
  obtain ⟨i, hi, rfl⟩ := List.getElem_of_mem h
  refine ⟨(i, nth ps i), List.mem_map.mpr ⟨i, List.mem_range.mpr hi, rfl⟩, ?_⟩
  show nth ps i = ps[i]
  unfold nth
  rw [List.getD_eq_getElem?_getD, List.getElem?_eq_getElem hi]; rfl
theorem blevel_keys (mv : Mv) (ps : List (List Nat)) : ∀ (l : List (List Nat)) (s : ZT × List (List Nat)), ∃ new, keysZ (blevel mv ps l s).1 = keysZ s.1 ++ new ∧ (blevel mv ps l s).2 = s.2 ++ new ∧ (∀ y ∈ new, ∃ x ∈ l, ∃ p ∈ ps, y = mv x p) ∧ ∀ x ∈ l, ∀ p ∈ ps, mv x p ∈ keysZ (blevel mv ps l s).1
  | [], s => ⟨[], (List.append_nil (keysZ s.1)).symm, (List.append_nil s.2).symm, (fun y hy => by cases hy), (fun ip h => by cases h)⟩
  | x :: l, s => by
    obtain ⟨n1, a1, a2, a3, a4⟩ := bnode_keys mv x (enumP ps) s
    obtain ⟨n2, b1, b2, b3, b4⟩ := blevel_keys mv ps l (bnode mv x (enumP ps) s)
    unfold blevel
    refine ⟨n1 ++ n2, by rw [b1, a1, List.append_assoc], by rw [b2, a2, List.append_assoc], fun y hy => ?_, fun z hz p hp => ?_⟩
    · rcases List.mem_append.mp hy with hy | hy
      · obtain ⟨ip, hi, e⟩ := a3 y hy
        exact ⟨x, List.mem_cons_self, ip.2, (enumP_mem hi).1, e⟩
      · obtain ⟨z, hz, r⟩ := b3 y hy
        exact ⟨z, List.mem_cons_of_mem _ hz, r⟩
    · rcases List.mem_cons.mp hz with rfl | hz
      · obtain ⟨ip, hi, e⟩ := enumP_all hp
        rw [b1, ← e]
        exact List.mem_append_left _ (a4 ip hi)
      · exact b4 z hz p hp
/-! ### the dict -/
def keyI (p : List Nat) : List Int := p.map fun (i : Nat) => (i : Int)
def kvsOf (Z : ZT) : List (List Int × D) := Z.map fun y => (keyI y.1, .list (nums y.2))
theorem keyI_inj {p q : List Nat} : keyI p = keyI q ↔ p = q := by
  constructor
  · intro h
    unfold keyI at h
    induction p generalizing q with
    | nil => cases q with
      | nil => rfl
      | cons b q => cases h
    | cons a p ih => cases q with
      | nil => cases h
      | cons b q =>
        rw [List.map_cons, List.map_cons] at h
        injection h with h1 h2
        rw [show a = b by omega, ih h2]
  · rintro rfl; rfl
theorem asKey_pat (p : List Nat) : asKey (pat p) = some (keyI p) := asIs_nums p
theorem keyD_pat (p : List Nat) : keyD (keyI p) = pat p := by
  unfold keyD keyI pat nums
  rw [List.map_map]
  rfl
theorem dAt_kvs (Z : ZT) (x : List Nat) : dAt (kvsOf Z) (keyI x) = (Z.find? fun y => decide (y.1 = x)).map fun y => PyData.list (nums y.2) := by
  unfold dAt kvsOf
  induction Z with
  | nil => rfl
  | cons z Z ih =>
    rw [List.map_cons]
    by_cases e : z.1 = x
    · have e' : keyI z.1 = keyI x := by rw [e]
      simp only [List.find?_cons, decide_eq_true e, decide_eq_true e']
      rfl
    · have e' : ¬ keyI z.1 = keyI x := fun h => e (keyI_inj.mp h)
      simp only [List.find?_cons, decide_eq_false e, decide_eq_false e']
      exact ih
theorem dHas_kvs (Z : ZT) (x : List Nat) : dHas (kvsOf Z) (keyI x) = hasZ Z x := by
  unfold dHas hasZ
  rw [dAt_kvs, Option.isSome_map]
theorem kvs_snoc (Z : ZT) (y r : List Nat) : kvsOf (Z ++ [(y, r)]) = kvsOf Z ++ [(keyI y, .list (nums r))] := by unfold kvsOf; rw [List.map_append]; rfl
theorem kvs_len (Z : ZT) : (kvsOf Z).length = Z.length := by unfold kvsOf; rw [List.length_map]
/-! ### the walk -/
def bRow : DS := (sSeq (sSet 8 (eCall m_find_combined (eCons (eVar 5) (eCons (eVar 7) eNil))))
  (sIf (eNot (eDHas 2 (eVar 8)))
  (sSeq (sDPutN 2 (eVar 8) (eOfL (l2 lCat (eToL (eDGet 2 (eVar 5))) (eLst (eCons (eVar 6) eNil)))))
  (sApp 4 (eVar 8)))
  sNext))
def hRow : D → DE → Option DE := hTup (hsCons (hName 6) (hsCons (hName 7) hsNil))
abbrev envR (ps : List (List Nat)) (a1 : DV) (Z : ZT) (lev lat : List (List Nat)) (x5 x6 x7 x8 : DV) : DE := [.dat (alw ps), a1, .dct (kvsOf Z), .dat (.list (lev.map pat)), .own (lat.map pat), x5, x6, x7, x8]
theorem row_body {n : Nat} (hn : Sz n) {ps : List (List Nat)} {a1 : DV} {Z : ZT} {lev lat : List (List Nat)} (g : GoodZ n Z lat) {x : List Nat} (hx : hasZ Z x = true) {i : Nat} {p : List Nat} (hp : isP n p) (x8 : DV) :
    GoodZ n (bnode comb x [(i, p)] (Z, lat)).1 (bnode comb x [(i, p)] (Z, lat)).2 ∧ ∃ y8, bRow (envR ps a1 Z lev lat (.dat (pat x)) (.dat (.int (i : Int))) (.dat (pat p)) x8) = .nx (envR ps a1 (bnode comb x [(i, p)] (Z, lat)).1 lev (bnode comb x [(i, p)] (Z, lat)).2 (.dat (pat x)) (.dat (.int (i : Int))) (.dat (pat p)) y8) := by
  have hxP : isP n x := g.P x (hasZ_mem.mp hx)
  have hb := g.few hn
  have hlat := g.lat
  obtain ⟨w, hw, _, ew, er⟩ := rowOf_mem hx
  have hwl := g.row w hw
  unfold bRow
  have e1 : sSet 8 (eCall m_find_combined (eCons (eVar 5) (eCons (eVar 7) eNil))) (envR ps a1 Z lev lat (.dat (pat x)) (.dat (.int (i : Int))) (.dat (pat p)) x8) = .nx (envR ps a1 Z lev lat (.dat (pat x)) (.dat (.int (i : Int))) (.dat (pat p)) (.dat (pat (comb x p)))) :=
    sSet_ok (d := pat (comb x p)) (by simp only [v_var, v_own, v_varOf, v_ownOf, v_c, v_1, v_2, v_nil, v_cons, v_call, v_tup, v_lst, v_toL, v_ofL, v_toB, v_ofB, v_not, v_and, v_or, v_if, v_chain, v_ixL, v_part, v_tupL, v_l2, v_yes, v_mNil, v_mDat, v_mOwn, v_divmod, v_asL, v_asT, v_asB, v_asI, v_add, v_sub, v_neg, v_lt, v_le, v_gt, v_ge, v_isB, v_notB, v_isN, v_notN, v_isNi, v_isNn, bS, lineOk0, dIx_l, dIx_t, cLen_l, cLen_t, asSeq_l, asSeq_t, wipeD, setM, List.getElem?_cons_zero, List.getElem?_cons_succ, List.set_cons_zero, List.set_cons_succ, if_true, if_false, ite_true, ite_false, Bool.false_eq_true, Bool.not_true, Bool.not_false, find_combined_ok hn hxP hp])
  have hc : (eNot (eDHas 2 (eVar 8))) (envR ps a1 Z lev lat (.dat (pat x)) (.dat (.int (i : Int))) (.dat (pat p)) (.dat (pat (comb x p)))) = some (!hasZ Z (comb x p)) := by
    show (((some (pat (comb x p))).bind asKey).bind fun k => some (dHas (kvsOf Z) k)).bind (fun b => some (!b)) = _
    rw [bS, asKey_pat, bS, bS, dHas_kvs]
  rw [sSeq_nx e1]
  by_cases hy : hasZ Z (comb x p) = true
  · have eb : bnode comb x [(i, p)] (Z, lat) = (Z, lat) := by unfold bnode; rw [if_pos hy]; rfl
    rw [eb]
    exact ⟨g, _, sIfN_f (hc.trans (by rw [hy]; rfl))⟩
  · have eb : bnode comb x [(i, p)] (Z, lat) = (Z ++ [(comb x p, rowOf Z x ++ [i])], lat ++ [comb x p]) := by unfold bnode; rw [if_neg hy]; rfl
    rw [eb]
    refine ⟨g.add hx hy (comb_P hxP hp), .dat (pat (comb x p)), ?_⟩
    have hf : hasZ Z (comb x p) = false := by
      cases h : hasZ Z (comb x p) with
      | true => exact absurd h hy
      | false => rfl
    rw [sIf_t (hc.trans (by rw [hf]; rfl))]
    have ev : (eOfL (l2 lCat (eToL (eDGet 2 (eVar 5))) (eLst (eCons (eVar 6) eNil)))) (envR ps a1 Z lev lat (.dat (pat x)) (.dat (.int (i : Int))) (.dat (pat p)) (.dat (pat (comb x p)))) = some (.list (nums (rowOf Z x ++ [i]))) := by
      have eg : eDGet 2 (eVar 5) (envR ps a1 Z lev lat (.dat (pat x)) (.dat (.int (i : Int))) (.dat (pat p)) (.dat (pat (comb x p)))) = some (.list (nums (rowOf Z x))) := by
        show ((some (pat x)).bind asKey).bind (fun k => dAt (kvsOf Z) k) = _
        rw [bS, asKey_pat, bS, dAt_kvs, ew, er]
        rfl
      rw [v_ofL, v_l2, v_toL, eg]
      simp only [v_var, v_own, v_varOf, v_ownOf, v_c, v_1, v_2, v_nil, v_cons, v_call, v_tup, v_lst, v_toL, v_ofL, v_toB, v_ofB, v_not, v_and, v_or, v_if, v_chain, v_ixL, v_part, v_tupL, v_l2, v_yes, v_mNil, v_mDat, v_mOwn, v_divmod, v_asL, v_asT, v_asB, v_asI, v_add, v_sub, v_neg, v_lt, v_le, v_gt, v_ge, v_isB, v_notB, v_isN, v_notN, v_isNi, v_isNn, bS, lineOk0, dIx_l, dIx_t, cLen_l, cLen_t, asSeq_l, asSeq_t, wipeD, setM, List.getElem?_cons_zero, List.getElem?_cons_succ, List.set_cons_zero, List.set_cons_succ, if_true, if_false, ite_true, ite_false, Bool.false_eq_true, Bool.not_true, Bool.not_false, lineOk1]
      rw [nums_app]
      show (if (nums (rowOf Z x)).length + 1 ≤ 16777216 then some (nums (rowOf Z x) ++ [.int (i : Int)]) else none).bind _ = _
      rw [if_pos (by rw [nums_length, er]; omega), bS]
      rfl
    have ep : sDPutN 2 (eVar 8) (eOfL (l2 lCat (eToL (eDGet 2 (eVar 5))) (eLst (eCons (eVar 6) eNil)))) (envR ps a1 Z lev lat (.dat (pat x)) (.dat (.int (i : Int))) (.dat (pat p)) (.dat (pat (comb x p)))) = .nx (envR ps a1 (Z ++ [(comb x p, rowOf Z x ++ [i])]) lev lat (.dat (pat x)) (.dat (.int (i : Int))) (.dat (pat p)) (.dat (pat (comb x p)))) := by
      unfold sDPutN
      rw [ev]
      show (match (some (pat (comb x p))).bind asKey with | some k => if dHas (kvsOf Z) k = false ∧ (kvsOf Z).length < 16777216 then SO.nx _ else .bad | none => .bad) = _
      rw [bS, asKey_pat]
      show (if dHas (kvsOf Z) (keyI (comb x p)) = false ∧ (kvsOf Z).length < 16777216 then SO.nx _ else .bad) = _
      rw [if_pos ⟨by rw [dHas_kvs]; exact hf, by rw [kvs_len]; omega⟩, ← kvs_snoc]
      rfl
    rw [sSeq_nx ep, sApp_ok (d := pat (comb x p)) (ds := lat.map pat) (by simp only [v_var, v_own, v_varOf, v_ownOf, v_c, v_1, v_2, v_nil, v_cons, v_call, v_tup, v_lst, v_toL, v_ofL, v_toB, v_ofB, v_not, v_and, v_or, v_if, v_chain, v_ixL, v_part, v_tupL, v_l2, v_yes, v_mNil, v_mDat, v_mOwn, v_divmod, v_asL, v_asT, v_asB, v_asI, v_add, v_sub, v_neg, v_lt, v_le, v_gt, v_ge, v_isB, v_notB, v_isN, v_notN, v_isNi, v_isNn, bS, lineOk0, dIx_l, dIx_t, cLen_l, cLen_t, asSeq_l, asSeq_t, wipeD, setM, List.getElem?_cons_zero, List.getElem?_cons_succ, List.set_cons_zero, List.set_cons_succ, if_true, if_false, ite_true, ite_false, Bool.false_eq_true, Bool.not_true, Bool.not_false]) rfl (by rw [List.length_map]; omega)]
    rw [show lat.map pat ++ [pat (comb x p)] = (lat ++ [comb x p]).map pat by rw [List.map_append]; rfl]
    rfl
theorem bnode_cons (mv : Mv) (x : List Nat) (ip : Nat × List Nat) (l : List (Nat × List Nat)) (s : ZT × List (List Nat)) : bnode mv x (ip :: l) s = bnode mv x l (bnode mv x [ip] s) := by
  show (if hasZ s.1 (mv x ip.2) = true then bnode mv x l s else bnode mv x l _) = _
  by_cases h : hasZ s.1 (mv x ip.2) = true
  · rw [if_pos h]
    have : bnode mv x [ip] s = s := by
      show (if hasZ s.1 (mv x ip.2) = true then bnode mv x [] s else bnode mv x [] _) = _
      rw [if_pos h]; rfl
    rw [this]
  · rw [if_neg h]
    have : bnode mv x [ip] s = (s.1 ++ [(mv x ip.2, rowOf s.1 x ++ [ip.1])], s.2 ++ [mv x ip.2]) := by
      show (if hasZ s.1 (mv x ip.2) = true then bnode mv x [] s else bnode mv x [] _) = _
      rw [if_neg h]; rfl
    rw [this]
theorem has_more {mv : Mv} {x : List Nat} {l : List (Nat × List Nat)} {s : ZT × List (List Nat)} {z : List Nat} (h : hasZ s.1 z = true) : hasZ (bnode mv x l s).1 z = true := by
  obtain ⟨new, e1, _⟩ := bnode_keys mv x l s
  rw [hasZ_mem] at h ⊢
  rw [e1]; exact List.mem_append_left _ h
theorem row_node {n : Nat} (hn : Sz n) {ps : List (List Nat)} {a1 : DV} {lev : List (List Nat)} {x : List Nat} : ∀ (l : List (Nat × List Nat)) (s : ZT × List (List Nat)), GoodZ n s.1 s.2 → hasZ s.1 x = true → (∀ ip ∈ l, isP n ip.2) → ∀ x6 x7 x8 : DV,
    GoodZ n (bnode comb x l s).1 (bnode comb x l s).2 ∧ ∃ y6 y7 y8, forD hRow bRow (l.map fun ip => PyData.tuple [.int (ip.1 : Int), pat ip.2]) (envR ps a1 s.1 lev s.2 (.dat (pat x)) x6 x7 x8) = .nx (envR ps a1 (bnode comb x l s).1 lev (bnode comb x l s).2 (.dat (pat x)) y6 y7 y8)
  | [], s, g, _, _, x6, x7, x8 => ⟨g, x6, x7, x8, rfl⟩
  | ip :: l, s, g, hx, hP, x6, x7, x8 => by
    obtain ⟨g1, y8, e⟩ := row_body hn (ps := ps) (a1 := a1) (lev := lev) g hx (i := ip.1) (hP ip List.mem_cons_self) x8
    have hx1 : hasZ (bnode comb x [ip] s).1 x = true := has_more hx
    obtain ⟨g2, z6, z7, z8, e2⟩ := row_node hn (ps := ps) (a1 := a1) (lev := lev) l (bnode comb x [ip] s) g1 hx1 (fun q hq => hP q (List.mem_cons_of_mem _ hq)) (.dat (.int (ip.1 : Int))) (.dat (pat ip.2)) y8
    rw [bnode_cons]
    refine ⟨g2, z6, z7, z8, ?_⟩
    rw [List.map_cons, forD_nx' (ρ1 := envR ps a1 s.1 lev s.2 (.dat (pat x)) (.dat (.int (ip.1 : Int))) (.dat (pat ip.2)) x8) rfl e]
    exact e2
theorem enum_alw (ps : List (List Nat)) : dEnum (alw ps) = some ((enumP ps).map fun ip => PyData.tuple [.int (ip.1 : Int), pat ip.2]) := by
  show some (enumL (ps.map pat)) = _
  refine congrArg some ?_
  unfold enumL enumP
  rw [List.map_map]
  apply List.ext_getElem?
  intro i
  rw [List.getElem?_zipWith, List.getElem?_map, List.getElem?_map, List.length_map]
  by_cases hi : i < ps.length
  · rw [List.getElem?_range hi, List.getElem?_eq_getElem hi]
    show some _ = some (PyData.tuple [.int (i : Int), pat (nth ps i)])
    unfold nth
    rw [List.getD_eq_getElem?_getD, List.getElem?_eq_getElem hi]
    rfl
  · rw [List.getElem?_eq_none (l := List.range ps.length) (by rw [List.length_range]; omega)]; rfl
theorem row_level {n : Nat} (hn : Sz n) {ps : List (List Nat)} (h : isPr n ps) {a1 : DV} {lev : List (List Nat)} : ∀ (l : List (List Nat)) (s : ZT × List (List Nat)), GoodZ n s.1 s.2 → (∀ x ∈ l, hasZ s.1 x = true) → ∀ x5 x6 x7 x8 : DV,
    GoodZ n (blevel comb ps l s).1 (blevel comb ps l s).2 ∧ ∃ y5 y6 y7 y8, forD (hName 5) (sFor (e1 dEnum (eVar 0)) hRow bRow) (l.map pat) (envR ps a1 s.1 lev s.2 x5 x6 x7 x8) = .nx (envR ps a1 (blevel comb ps l s).1 lev (blevel comb ps l s).2 y5 y6 y7 y8)
  | [], s, g, _, x5, x6, x7, x8 => ⟨g, x5, x6, x7, x8, rfl⟩
  | x :: l, s, g, hx, x5, x6, x7, x8 => by
    obtain ⟨g1, y6, y7, y8, e⟩ := row_node hn (ps := ps) (a1 := a1) (lev := lev) (x := x) (enumP ps) s g (hx x List.mem_cons_self) (fun ip hi => h.all _ (enumP_mem hi).1) x6 x7 x8
    obtain ⟨g2, z5, z6, z7, z8, e2⟩ := row_level hn h (a1 := a1) (lev := lev) l (bnode comb x (enumP ps) s) g1 (fun z hz => has_more (hx z (List.mem_cons_of_mem _ hz))) (.dat (pat x)) y6 y7 y8
    refine ⟨g2, z5, z6, z7, z8, ?_⟩
    rw [List.map_cons, forD_nx' (ρ1 := envR ps a1 s.1 lev s.2 (.dat (pat x)) x6 x7 x8) rfl ((sFor_ok (ds := (enumP ps).map fun ip => PyData.tuple [.int (ip.1 : Int), pat ip.2]) (by rw [e1_ok (d := alw ps) (by simp only [v_var, v_own, v_varOf, v_ownOf, v_c, v_1, v_2, v_nil, v_cons, v_call, v_tup, v_lst, v_toL, v_ofL, v_toB, v_ofB, v_not, v_and, v_or, v_if, v_chain, v_ixL, v_part, v_tupL, v_l2, v_yes, v_mNil, v_mDat, v_mOwn, v_divmod, v_asL, v_asT, v_asB, v_asI, v_add, v_sub, v_neg, v_lt, v_le, v_gt, v_ge, v_isB, v_notB, v_isN, v_notN, v_isNi, v_isNn, bS, lineOk0, dIx_l, dIx_t, cLen_l, cLen_t, asSeq_l, asSeq_t, wipeD, setM, List.getElem?_cons_zero, List.getElem?_cons_succ, List.set_cons_zero, List.set_cons_succ, if_true, if_false, ite_true, ite_false, Bool.false_eq_true, Bool.not_true, Bool.not_false]) (enum_alw ps)])).trans e)]
    exact e2
/-- reached by the moves -/
inductive Rm (mv : Mv) (ps : List (List Nat)) (s0 : List Nat) : List Nat → Prop
  | id : Rm mv ps s0 s0
  | step {x p : List Nat} : Rm mv ps s0 x → p ∈ ps → Rm mv ps s0 (mv x p)
structure CloZ (mv : Mv) (n : Nat) (ps : List (List Nat)) (Z : ZT) : Prop where
  g : GoodZ n Z []
  id : idp n ∈ keysZ Z
  cl : ∀ x ∈ keysZ Z, ∀ p ∈ ps, mv x p ∈ keysZ Z
  rm : ∀ x ∈ keysZ Z, Rm mv ps (idp n) x
def Zall (mv : Mv) (n : Nat) (ps : List (List Nat)) : ZT := brun mv ps 300 [(idp n, [])] [idp n]
def rowD (y : List Nat × List Nat) : D := .tuple [pat (inv y.1), .list (nums y.2)]
theorem find_rows_ok {n : Nat} (hn : Sz n) {ps : List (List Nat)} (h : isPr n ps) : CloZ comb n ps (Zall comb n ps) ∧ m_find_rows [alw ps] = some (.list ((Zall comb n ps).map rowD)) := by
  have h5 := hn.le
  have key : ∃ Z, Z = Zall comb n ps ∧ CloZ comb n ps Z ∧ m_find_rows [alw ps] = some (.list (Z.map rowD)) := by
    unfold m_find_rows
    simp only [run_eq]
    show ∃ Z, Z = Zall comb n ps ∧ CloZ comb n ps Z ∧ outO (b_find_rows [.dat (alw ps), .bot, .bot, .bot, .bot, .bot, .bot, .bot, .bot]) = some (.list (Z.map rowD))
    unfold b_find_rows
    have s1 : sSet 1 (eCall m_first_pattern (eCons (eCall cLen (eCons (e2 dIx (eVar 0) (eC (.int 0))) eNil)) eNil)) [.dat (alw ps), .bot, .bot, .bot, .bot, .bot, .bot, .bot, .bot] = .nx [.dat (alw ps), .dat (pat (idp n)), .bot, .bot, .bot, .bot, .bot, .bot, .bot] :=
      sSet_ok (d := pat (idp n)) (by simp only [v_var, v_own, v_varOf, v_ownOf, v_c, v_1, v_2, v_nil, v_cons, v_call, v_tup, v_lst, v_toL, v_ofL, v_toB, v_ofB, v_not, v_and, v_or, v_if, v_chain, v_ixL, v_part, v_tupL, v_l2, v_yes, v_mNil, v_mDat, v_mOwn, v_divmod, v_asL, v_asT, v_asB, v_asI, v_add, v_sub, v_neg, v_lt, v_le, v_gt, v_ge, v_isB, v_notB, v_isN, v_notN, v_isNi, v_isNn, bS, lineOk0, dIx_l, dIx_t, cLen_l, cLen_t, asSeq_l, asSeq_t, wipeD, setM, List.getElem?_cons_zero, List.getElem?_cons_succ, List.set_cons_zero, List.set_cons_succ, if_true, if_false, ite_true, ite_false, Bool.false_eq_true, Bool.not_true, Bool.not_false, dIx_alw0 h.pos, cLen_pat (nth_P h h.pos), first_pattern_ok hn])
    rw [sSeq_nx s1]
    have s2 : sPar [2, 3] (mDct (eVar 1) (eOfL (eLst eNil)) (mDat (eOfL (eLst (eCons (eVar 1) eNil))) mNil)) [.dat (alw ps), .dat (pat (idp n)), .bot, .bot, .bot, .bot, .bot, .bot, .bot] = .nx [.dat (alw ps), .dat (pat (idp n)), .dct (kvsOf [(idp n, [])]), .dat (.list ([idp n].map pat)), .bot, .bot, .bot, .bot, .bot] :=
      sPar_ok (xs := [.dct (kvsOf [(idp n, [])]), .dat (.list ([idp n].map pat))]) (by
        show (((some (pat (idp n))).bind asKey).bind fun k => (eOfL (eLst eNil) _).bind fun d => (mDat (eOfL (eLst (eCons (eVar 1) eNil))) mNil _).bind fun xs => some (.dct [(k, d)] :: xs)) = _
        rw [bS, asKey_pat, bS]
        simp only [v_var, v_own, v_varOf, v_ownOf, v_c, v_1, v_2, v_nil, v_cons, v_call, v_tup, v_lst, v_toL, v_ofL, v_toB, v_ofB, v_not, v_and, v_or, v_if, v_chain, v_ixL, v_part, v_tupL, v_l2, v_yes, v_mNil, v_mDat, v_mOwn, v_divmod, v_asL, v_asT, v_asB, v_asI, v_add, v_sub, v_neg, v_lt, v_le, v_gt, v_ge, v_isB, v_notB, v_isN, v_notN, v_isNi, v_isNn, bS, lineOk0, dIx_l, dIx_t, cLen_l, cLen_t, asSeq_l, asSeq_t, wipeD, setM, List.getElem?_cons_zero, List.getElem?_cons_succ, List.set_cons_zero, List.set_cons_succ, if_true, if_false, ite_true, ite_false, Bool.false_eq_true, Bool.not_true, Bool.not_false, lineOk1]
        rfl)
    rw [sSeq_nx s2]
    have g0 : GoodZ n [(idp n, [])] [] := ⟨by simp [keysZ], fun x hx => by
      have : x = idp n := by simpa [keysZ] using hx
      rw [this]; exact idp_P n, fun y hy => by rw [List.mem_singleton.mp hy]; exact Nat.zero_le _, Nat.zero_le _⟩
    have hcond : ∀ (Z : ZT) (M : List (List Nat)) (z1 z4 z5 z6 z7 z8 : DV), e2 dNe (eVar 3) (eOfL (eLst eNil)) [.dat (alw ps), z1, .dct (kvsOf Z), .dat (.list (M.map pat)), z4, z5, z6, z7, z8] = some (!decide (M = [])) := fun Z M z1 z4 z5 z6 z7 z8 => by simp only [v_var, v_own, v_varOf, v_ownOf, v_c, v_1, v_2, v_nil, v_cons, v_call, v_tup, v_lst, v_toL, v_ofL, v_toB, v_ofB, v_not, v_and, v_or, v_if, v_chain, v_ixL, v_part, v_tupL, v_l2, v_yes, v_mNil, v_mDat, v_mOwn, v_divmod, v_asL, v_asT, v_asB, v_asI, v_add, v_sub, v_neg, v_lt, v_le, v_gt, v_ge, v_isB, v_notB, v_isN, v_notN, v_isNi, v_isNn, bS, lineOk0, dIx_l, dIx_t, cLen_l, cLen_t, asSeq_l, asSeq_t, wipeD, setM, List.getElem?_cons_zero, List.getElem?_cons_succ, List.set_cons_zero, List.set_cons_succ, if_true, if_false, ite_true, ite_false, Bool.false_eq_true, Bool.not_true, Bool.not_false, dNe_pl]
    obtain ⟨ρ', h2, ⟨Z, M, c, z4, z5, z6, z7, z8, g, hM, hid, hcl, hrm, hc1, hc2, rfl⟩, hend⟩ := while_inv (c := e2 dNe (eVar 3) (eOfL (eLst eNil))) (b := (sSeq (sOwn 4 (eLst eNil)) (sSeq (sFor (e1 asSeq (eVar 3)) (hName 5) (sFor (e1 dEnum (eVar 0)) hRow bRow)) (sFz 4 (sSet 3 (eVar 4))))))
      (fun ρ => ∃ (Z : ZT) (M : List (List Nat)) (c : Nat) (z4 z5 z6 z7 z8 : DV), GoodZ n Z [] ∧ (∀ a ∈ M, hasZ Z a = true) ∧ idp n ∈ keysZ Z ∧ (∀ x ∈ keysZ Z, x ∉ M → ∀ p ∈ ps, comb x p ∈ keysZ Z) ∧ (∀ x ∈ keysZ Z, Rm comb ps (idp n) x) ∧
        c + (2 * (121 - Z.length) + (if M.length = 0 then 0 else 1)) ≤ 250 ∧ (∀ m, brun comb ps (m + c) [(idp n, [])] [idp n] = brun comb ps m Z M) ∧ ρ = [.dat (alw ps), .dat (pat (idp n)), .dct (kvsOf Z), .dat (.list (M.map pat)), z4, z5, z6, z7, z8])
      (fun (ρ : DE) => 2 * (121 - (match ρ[2]? with | some (DV.dct kvs) => kvs.length | _ => 0)) + (if lenAt 3 ρ = 0 then 0 else 1))
      (fun ρ ⟨Z, M, c, z4, z5, z6, z7, z8, g, hM, hid, hcl, hrm, hc1, hc2, e⟩ => by
        subst e
        rw [hcond]
        by_cases hm : M = []
        · rw [decide_eq_true hm]; exact .inl rfl
        · rw [decide_eq_false hm]
          obtain ⟨g1, y5, y6, y7, y8, e⟩ := row_level hn h (a1 := .dat (pat (idp n))) (lev := M) M (Z, []) g hM z5 z6 z7 z8
          obtain ⟨new, k1, k2, k3, k4⟩ := blevel_keys comb ps M (Z, [])
          have k2' : (blevel comb ps M (Z, [])).2 = new := by rw [k2]; rfl
          have hb := g1.few hn
          have hl : (blevel comb ps M (Z, [])).1.length = Z.length + new.length := by
            have := congrArg List.length k1
            unfold keysZ at this
            rw [List.length_map, List.length_append, List.length_map] at this
            exact this
          have hMl : M.length ≠ 0 := fun z => hm (List.eq_nil_of_length_eq_zero z)
          refine .inr ⟨rfl, [.dat (alw ps), .dat (pat (idp n)), .dct (kvsOf (blevel comb ps M (Z, [])).1), .dat (.list (new.map pat)), .dat (.list (new.map pat)), y5, y6, y7, y8], .inl ?_, ⟨(blevel comb ps M (Z, [])).1, new, c + 1, _, _, _, _, _, ⟨g1.nd, g1.P, g1.row, Nat.zero_le _⟩, fun a ha => hasZ_mem.mpr (by rw [k1]; exact List.mem_append_right _ ha), by rw [k1]; exact List.mem_append_left _ hid, fun x hx hxn p hp => ?_, fun x hx => ?_, ?_, fun m => ?_, rfl⟩, ?_⟩
          · rw [sSeq_nx (sOwn_ok (d := []) (by simp only [v_var, v_own, v_varOf, v_ownOf, v_c, v_1, v_2, v_nil, v_cons, v_call, v_tup, v_lst, v_toL, v_ofL, v_toB, v_ofB, v_not, v_and, v_or, v_if, v_chain, v_ixL, v_part, v_tupL, v_l2, v_yes, v_mNil, v_mDat, v_mOwn, v_divmod, v_asL, v_asT, v_asB, v_asI, v_add, v_sub, v_neg, v_lt, v_le, v_gt, v_ge, v_isB, v_notB, v_isN, v_notN, v_isNi, v_isNn, bS, lineOk0, dIx_l, dIx_t, cLen_l, cLen_t, asSeq_l, asSeq_t, wipeD, setM, List.getElem?_cons_zero, List.getElem?_cons_succ, List.set_cons_zero, List.set_cons_succ, if_true, if_false, ite_true, ite_false, Bool.false_eq_true, Bool.not_true, Bool.not_false]))]
            simp only [setM, List.set_cons_succ, List.set_cons_zero]
            have ef : sFor (e1 asSeq (eVar 3)) (hName 5) (sFor (e1 dEnum (eVar 0)) hRow bRow) (envR ps (.dat (pat (idp n))) Z M [] z5 z6 z7 z8) = _ := (sFor_ok (ds := M.map pat) (by simp only [v_var, v_own, v_varOf, v_ownOf, v_c, v_1, v_2, v_nil, v_cons, v_call, v_tup, v_lst, v_toL, v_ofL, v_toB, v_ofB, v_not, v_and, v_or, v_if, v_chain, v_ixL, v_part, v_tupL, v_l2, v_yes, v_mNil, v_mDat, v_mOwn, v_divmod, v_asL, v_asT, v_asB, v_asI, v_add, v_sub, v_neg, v_lt, v_le, v_gt, v_ge, v_isB, v_notB, v_isN, v_notN, v_isNi, v_isNn, bS, lineOk0, dIx_l, dIx_t, cLen_l, cLen_t, asSeq_l, asSeq_t, wipeD, setM, List.getElem?_cons_zero, List.getElem?_cons_succ, List.set_cons_zero, List.set_cons_succ, if_true, if_false, ite_true, ite_false, Bool.false_eq_true, Bool.not_true, Bool.not_false])).trans e
            rw [k2'] at ef
            refine (sSeq_nx ef).trans ?_
            rw [sFz_ok rfl]
            simp only [setM, List.set_cons_succ, List.set_cons_zero]
            rw [sSet_ok (d := .list (new.map pat)) (by simp only [v_var, v_own, v_varOf, v_ownOf, v_c, v_1, v_2, v_nil, v_cons, v_call, v_tup, v_lst, v_toL, v_ofL, v_toB, v_ofB, v_not, v_and, v_or, v_if, v_chain, v_ixL, v_part, v_tupL, v_l2, v_yes, v_mNil, v_mDat, v_mOwn, v_divmod, v_asL, v_asT, v_asB, v_asI, v_add, v_sub, v_neg, v_lt, v_le, v_gt, v_ge, v_isB, v_notB, v_isN, v_notN, v_isNi, v_isNn, bS, lineOk0, dIx_l, dIx_t, cLen_l, cLen_t, asSeq_l, asSeq_t, wipeD, setM, List.getElem?_cons_zero, List.getElem?_cons_succ, List.set_cons_zero, List.set_cons_succ, if_true, if_false, ite_true, ite_false, Bool.false_eq_true, Bool.not_true, Bool.not_false])]
            rfl
          · rw [k1] at hx
            rcases List.mem_append.mp hx with hx | hx
            · by_cases hMx : x ∈ M
              · exact k4 x hMx p hp
              · rw [k1]; exact List.mem_append_left _ (hcl x hx hMx p hp)
            · exact absurd hx hxn
          · rw [k1] at hx
            rcases List.mem_append.mp hx with hx | hx
            · exact hrm x hx
            · obtain ⟨z, hz, p, hp, rfl⟩ := k3 x hx
              exact .step (hrm z (hasZ_mem.mp (hM z hz))) hp
          · rw [if_neg hMl] at hc1
            rw [hl] at hb ⊢
            by_cases hr : new.length = 0
            · rw [if_pos hr]; omega
            · rw [if_neg hr]; omega
          · have := hc2 (m + 1)
            rw [show m + (c + 1) = m + 1 + c by omega, this]
            show (if M = [] then Z else _) = _
            rw [if_neg hm, k2']
          · show 2 * (121 - (kvsOf (blevel comb ps M (Z, [])).1).length) + (if (new.map pat).length = 0 then 0 else 1) < 2 * (121 - (kvsOf Z).length) + (if (M.map pat).length = 0 then 0 else 1)
            rw [hl] at hb
            simp only [kvs_len, List.length_map]
            rw [hl, if_neg hMl]
            by_cases hr : new.length = 0
            · rw [if_pos hr]; omega
            · rw [if_neg hr]; omega) FUEL [.dat (alw ps), .dat (pat (idp n)), .dct (kvsOf [(idp n, [])]), .dat (.list ([idp n].map pat)), .bot, .bot, .bot, .bot, .bot]
      ⟨[(idp n, [])], [idp n], 0, _, _, _, _, _, g0, fun a ha => by
        have : a = idp n := by simpa using ha
        rw [this, hasZ_mem]; exact List.mem_cons_self, List.mem_cons_self, fun x hx hn' => absurd (by simpa [keysZ] using hx) hn', fun x hx => by
        have : x = idp n := by simpa [keysZ] using hx
        rw [this]; exact .id, by show 0 + (2 * (121 - 1) + 1) ≤ 250; omega, fun m => rfl, rfl⟩ (by
        show 2 * (121 - 1) + 1 < 100000
        omega)
    rw [hcond] at hend
    have hm : M = [] := by
      by_cases hm : M = []
      · exact hm
      · rw [decide_eq_false hm] at hend; cases hend
    subst hm
    have hZ : Z = Zall comb n ps := by
      have := hc2 (300 - c)
      rw [show 300 - c + c = 300 by omega] at this
      unfold Zall
      rw [this]
      obtain ⟨m, hm⟩ : ∃ m, 300 - c = m + 1 := ⟨300 - c - 1, by omega⟩
      rw [hm]
      rfl
    refine ⟨Z, hZ, ⟨g, hid, fun x hx p hp => hcl x hx (fun z => by cases z) p hp, hrm⟩, ?_⟩
    have hb := g.few hn
    refine (congrArg outO (sSeq_nx h2)).trans ?_
    have el : eLc [5] (eDKeys 2) (hName 5) eYes (eTup (eCons (eCall m_find_reversed (eCons (eVar 5) eNil)) (eCons (eDGet 2 (eVar 5)) eNil))) [.dat (alw ps), .dat (pat (idp n)), .dct (kvsOf Z), .dat (.list ([].map pat)), z4, z5, z6, z7, z8] = some (Z.map rowD) :=
      lc_map (vs := [5]) (j := 5) (u := fun y : List Nat × List Nat => pat y.1) (f := rowD) (xs := Z) (by omega) (by
        show some ((kvsOf Z).map fun y => keyD y.1) = _
        unfold kvsOf
        rw [List.map_map]
        refine congrArg some (List.map_congr_left fun y _ => keyD_pat y.1)) fun y hy => by
        have hyP : isP n y.1 := g.P _ (List.mem_map_of_mem hy)
        have eg : eDGet 2 (eVar 5) [.dat (alw ps), .dat (pat (idp n)), .dct (kvsOf Z), .dat (.list ([].map pat)), z4, .dat (pat y.1), z6, z7, z8] = some (.list (nums y.2)) := by
          show ((some (pat y.1)).bind asKey).bind (fun k => dAt (kvsOf Z) k) = _
          rw [bS, asKey_pat, bS, dAt_kvs, find_nodup g.nd hy]
          rfl
        show eTup _ [.dat (alw ps), .dat (pat (idp n)), .dct (kvsOf Z), .dat (.list ([].map pat)), z4, .dat (pat y.1), z6, z7, z8] = _
        rw [v_tup, v_cons, v_cons, eg]
        simp only [v_var, v_own, v_varOf, v_ownOf, v_c, v_1, v_2, v_nil, v_cons, v_call, v_tup, v_lst, v_toL, v_ofL, v_toB, v_ofB, v_not, v_and, v_or, v_if, v_chain, v_ixL, v_part, v_tupL, v_l2, v_yes, v_mNil, v_mDat, v_mOwn, v_divmod, v_asL, v_asT, v_asB, v_asI, v_add, v_sub, v_neg, v_lt, v_le, v_gt, v_ge, v_isB, v_notB, v_isN, v_notN, v_isNi, v_isNn, bS, lineOk0, dIx_l, dIx_t, cLen_l, cLen_t, asSeq_l, asSeq_t, wipeD, setM, List.getElem?_cons_zero, List.getElem?_cons_succ, List.set_cons_zero, List.set_cons_succ, if_true, if_false, ite_true, ite_false, Bool.false_eq_true, Bool.not_true, Bool.not_false, find_reversed_ok hn hyP, lineOk_ok (show ([pat (inv y.1), PyData.list (nums y.2)] : List D).length ≤ 16777216 from (show 2 ≤ 16777216 by omega))]
        rfl
    rw [sRet_ok (d := .list (Z.map rowD)) (by rw [v_ofL, el, bS])]
    rfl
  obtain ⟨Z, rfl, c, e⟩ := key
  exact ⟨c, e⟩
end DL

namespace DL
open PySem PySem.Spec L2
/-! ### an exchange, naively -/
theorem exchange_ok {n : Nat} (hn : Sz n) {a p : List Nat} (ha : isP n a) (hp : isP n p) : m_exchange [pat a, pat p] = some (pat (comb (inv p) a)) := by
  unfold m_exchange
  rw [run_eq]
  show outO (b_exchange [.dat (pat a), .dat (pat p), .bot, .bot, .bot]) = _
  unfold b_exchange
  rw [sSeq_nx (sOwn_ok (d := nums a) (by simp only [v_var, v_own, v_varOf, v_ownOf, v_c, v_1, v_2, v_nil, v_cons, v_call, v_tup, v_lst, v_toL, v_ofL, v_toB, v_ofB, v_not, v_and, v_or, v_if, v_chain, v_ixL, v_part, v_tupL, v_l2, v_yes, v_mNil, v_mDat, v_mOwn, v_divmod, v_asL, v_asT, v_asB, v_asI, v_add, v_sub, v_neg, v_lt, v_le, v_gt, v_ge, v_isB, v_notB, v_isN, v_notN, v_isNi, v_isNn, bS, lineOk0, dIx_l, dIx_t, cLen_l, cLen_t, asSeq_l, asSeq_t, wipeD, setM, List.getElem?_cons_zero, List.getElem?_cons_succ, List.set_cons_zero, List.set_cons_succ, if_true, if_false, ite_true, ite_false, Bool.false_eq_true, Bool.not_true, Bool.not_false, asSeq_pat]))]
  simp only [setM, List.set_cons_succ, List.set_cons_zero]
  obtain ⟨ρ', h2, ⟨A, z3, z4, rfl, hA, hall⟩⟩ := for_inv (h := hTup (hsCons (hName 3) (hsCons (hName 4) hsNil))) (b := sPut 2 (eVar 4) (e2 dIx (eVar 0) (eVar 3)))
    (fun i ρ => ∃ (A : List Nat) (z3 z4 : DV), ρ = [.dat (pat a), .dat (pat p), .own (nums A), z3, z4] ∧ A.length = n ∧ ∀ s, s < i → A.getD (p.getD s 0) 0 = a.getD s 0)
    (ds := (List.range n).map fun (j : Nat) => PyData.tuple [.int (j : Int), .int ((p.getD j 0 : Nat) : Int)]) (k := 0) (ρ := [.dat (pat a), .dat (pat p), .own (nums a), .bot, .bot]) ⟨_, _, _, rfl, ha.len, fun s hs => absurd hs (Nat.not_lt_zero _)⟩
    (fun i d ρ hd ⟨A, z3, z4, e, hA, hall⟩ => by
      subst e
      obtain ⟨hj', rfl⟩ := range_get' (u := fun (j : Nat) => PyData.tuple [.int (j : Int), .int ((p.getD j 0 : Nat) : Int)]) hd
      rw [List.getElem_range]
      have hi : i < n := by rw [List.length_range] at hj'; exact hj'
      rw [Nat.zero_add] at hall ⊢
      have hpi := getD_lt hp hi
      refine ⟨[.dat (pat a), .dat (pat p), .own (nums A), .dat (.int (i : Int)), .dat (.int ((p.getD i 0 : Nat) : Int))], [.dat (pat a), .dat (pat p), .own (nums (A.set (p.getD i 0) (a.getD i 0))), .dat (.int (i : Int)), .dat (.int ((p.getD i 0 : Nat) : Int))], rfl, .inl ?_, _, _, _, rfl, by rw [List.length_set, hA], ?_⟩
      · rw [sPut_ok (d := .int ((a.getD i 0 : Nat) : Int)) (k := ((p.getD i 0 : Nat) : Int)) (ds := nums A) (m := p.getD i 0) (by simp only [v_var, v_own, v_varOf, v_ownOf, v_c, v_1, v_2, v_nil, v_cons, v_call, v_tup, v_lst, v_toL, v_ofL, v_toB, v_ofB, v_not, v_and, v_or, v_if, v_chain, v_ixL, v_part, v_tupL, v_l2, v_yes, v_mNil, v_mDat, v_mOwn, v_divmod, v_asL, v_asT, v_asB, v_asI, v_add, v_sub, v_neg, v_lt, v_le, v_gt, v_ge, v_isB, v_notB, v_isN, v_notN, v_isNi, v_isNn, bS, lineOk0, dIx_l, dIx_t, cLen_l, cLen_t, asSeq_l, asSeq_t, wipeD, setM, List.getElem?_cons_zero, List.getElem?_cons_succ, List.set_cons_zero, List.set_cons_succ, if_true, if_false, ite_true, ite_false, Bool.false_eq_true, Bool.not_true, Bool.not_false, dIx_p ha hi]) (by simp only [v_var, v_own, v_varOf, v_ownOf, v_c, v_1, v_2, v_nil, v_cons, v_call, v_tup, v_lst, v_toL, v_ofL, v_toB, v_ofB, v_not, v_and, v_or, v_if, v_chain, v_ixL, v_part, v_tupL, v_l2, v_yes, v_mNil, v_mDat, v_mOwn, v_divmod, v_asL, v_asT, v_asB, v_asI, v_add, v_sub, v_neg, v_lt, v_le, v_gt, v_ge, v_isB, v_notB, v_isN, v_notN, v_isNi, v_isNn, bS, lineOk0, dIx_l, dIx_t, cLen_l, cLen_t, asSeq_l, asSeq_t, wipeD, setM, List.getElem?_cons_zero, List.getElem?_cons_succ, List.set_cons_zero, List.set_cons_succ, if_true, if_false, ite_true, ite_false, Bool.false_eq_true, Bool.not_true, Bool.not_false]) rfl (ixN_ok (by rw [nums_length, hA]; exact hpi))]
        simp only [setM, List.set_cons_succ, List.set_cons_zero]
        rw [nums_set]
      · intro s hs
        by_cases hsi : s = i
        · subst hsi
          exact getD_set_self (by rw [hA]; exact hpi)
        · rw [getD_set_ne (fun e => hsi (getD_inj hp (by omega) hi e.symm))]
          exact hall s (by omega))
  rw [Nat.zero_add, List.length_map, List.length_range] at hall
  have e : A = comb (inv p) a := by
    obtain ⟨ip, i1, i2, i3⟩ := inv_facts hn hp
    refine ext_getD (by rw [comb_len, ip.len, hA]) fun x hx => ?_
    rw [hA] at hx
    rw [comb_get a (by rw [ip.len]; exact hx)]
    have hx2 := getD_lt ip hx
    rw [← hall _ hx2]
    have : p.getD ((inv p).getD x 0) 0 = x := by
      rw [← comb_get p (by rw [ip.len]; exact hx), i2, idp_get hx]
    rw [this]
  subst e
  rw [sSeq_nx ((sFor_ok (ds := (List.range n).map fun (j : Nat) => PyData.tuple [.int (j : Int), .int ((p.getD j 0 : Nat) : Int)]) (by simp only [v_var, v_own, v_varOf, v_ownOf, v_c, v_1, v_2, v_nil, v_cons, v_call, v_tup, v_lst, v_toL, v_ofL, v_toB, v_ofB, v_not, v_and, v_or, v_if, v_chain, v_ixL, v_part, v_tupL, v_l2, v_yes, v_mNil, v_mDat, v_mOwn, v_divmod, v_asL, v_asT, v_asB, v_asI, v_add, v_sub, v_neg, v_lt, v_le, v_gt, v_ge, v_isB, v_notB, v_isN, v_notN, v_isNi, v_isNn, bS, lineOk0, dIx_l, dIx_t, cLen_l, cLen_t, asSeq_l, asSeq_t, wipeD, setM, List.getElem?_cons_zero, List.getElem?_cons_succ, List.set_cons_zero, List.set_cons_succ, if_true, if_false, ite_true, ite_false, Bool.false_eq_true, Bool.not_true, Bool.not_false, enumT_pat hp.len])).trans h2)]
  rw [sRet_ok (d := pat (comb (inv p) a)) (by simp only [v_var, v_own, v_varOf, v_ownOf, v_c, v_1, v_2, v_nil, v_cons, v_call, v_tup, v_lst, v_toL, v_ofL, v_toB, v_ofB, v_not, v_and, v_or, v_if, v_chain, v_ixL, v_part, v_tupL, v_l2, v_yes, v_mNil, v_mDat, v_mOwn, v_divmod, v_asL, v_asT, v_asB, v_asI, v_add, v_sub, v_neg, v_lt, v_le, v_gt, v_ge, v_isB, v_notB, v_isN, v_notN, v_isNi, v_isNn, bS, lineOk0, dIx_l, dIx_t, cLen_l, cLen_t, asSeq_l, asSeq_t, wipeD, setM, List.getElem?_cons_zero, List.getElem?_cons_succ, List.set_cons_zero, List.set_cons_succ, if_true, if_false, ite_true, ite_false, Bool.false_eq_true, Bool.not_true, Bool.not_false]; rfl)]
  rfl
/-! ### the sorted list, of any order of the same -/
theorem isort_perm {xs ys : List Int} (p : xs.Perm ys) : isort xs = isort ys := isort_of ((perm_isort xs).trans p) (up_isort xs)
theorem asKeys_pats : ∀ L : List (List Nat), asKeys (L.map pat) = some (L.map keyI)
  | [] => rfl
  | p :: L => by
    show (asKey (pat p)).bind _ = _
    rw [asKey_pat, bS]
    show (asKeys (L.map pat)).bind _ = _
    rw [asKeys_pats L, bS]
    rfl
theorem keyLen_P {n : Nat} {L : List (List Nat)} (hP : ∀ a ∈ L, isP n a) (h0 : L ≠ []) : keyLen (L.map keyI) = n := by
  cases L with
  | nil => exact absurd rfl h0
  | cons p L =>
    show (keyI p).length = n
    unfold keyI
    rw [List.length_map]
    exact (hP p List.mem_cons_self).len
theorem okKey_P {n : Nat} (hn : Sz n) {p : List Nat} (hp : isP n p) : okKey n (keyI p) = true := by
  have h5 := hn.le
  unfold okKey
  rw [Bool.and_eq_true, decide_eq_true_eq, List.all_eq_true]
  refine ⟨by unfold keyI; rw [List.length_map]; exact hp.len, fun i hi => ?_⟩
  obtain ⟨x, hx, rfl⟩ := List.mem_map.mp hi
  have := hp.lt x hx
  rw [Bool.and_eq_true, decide_eq_true_eq, decide_eq_true_eq]
  omega
theorem sort_pats {n : Nat} (hn : Sz n) {L : List (List Nat)} (hP : ∀ a ∈ L, isP n a) (h0 : L ≠ []) : lSortT (.list (L.map pat)) = some ((sortK (L.map keyI)).map keyD) := by
  have h3 := hn.ge
  have hall : (L.map keyI).all (okKey n) = true := List.all_eq_true.mpr fun k hk => by
    obtain ⟨p, hp, rfl⟩ := List.mem_map.mp hk
    exact okKey_P hn (hP p hp)
  show (asKeys (L.map pat)).bind _ = _
  rw [asKeys_pats, bS, keyLen_P hP h0, if_pos ⟨by omega, hall⟩]
theorem sortK_perm {n : Nat} {L M : List (List Nat)} (hP : ∀ a ∈ L, isP n a) (h0 : L ≠ []) (p : L.Perm M) : sortK (L.map keyI) = sortK (M.map keyI) := by
  unfold sortK
  have hM0 : M ≠ [] := fun e => by
    subst e
    exact h0 p.eq_nil
  rw [keyLen_P hP h0, keyLen_P (fun a ha => hP a (p.mem_iff.mpr ha)) hM0, isort_perm ((p.map keyI).map (TS.code 1000))]
theorem perm_of {L M : List (List Nat)} (h1 : L.Nodup) (h2 : M.Nodup) (h : ∀ a, a ∈ L ↔ a ∈ M) : L.Perm M := List.perm_iff_count.mpr fun a => by
  by_cases ha : a ∈ L
  · rw [List.Nodup.count h1, List.Nodup.count h2, if_pos ha, if_pos ((h a).mp ha)]
  · rw [List.count_eq_zero_of_not_mem ha, List.count_eq_zero_of_not_mem fun z => ha ((h a).mpr z)]
theorem Clo.P {n : Nat} (hn : Sz n) {ps L : List (List Nat)} (h : isPr n ps) (c : Clo n ps L) : ∀ a ∈ L, isP n a := fun a ha => (c.rc a ha).P hn h
theorem Clo.ne {n : Nat} {ps L : List (List Nat)} (c : Clo n ps L) : L ≠ [] := fun e => by
  have := c.id
  rw [e] at this; cases this
/-- two closed lists give the same, sorted -/
theorem Clo.sort {n : Nat} (hn : Sz n) {ps L M : List (List Nat)} (h : isPr n ps) (c : Clo n ps L) (d : Clo n ps M) : lSortT (.list (L.map pat)) = some ((sortK (M.map keyI)).map keyD) := by
  rw [sort_pats hn (c.P hn h) c.ne, sortK_perm (c.P hn h) c.ne (perm_of c.nd d.nd fun a => ⟨fun ha => d.all (c.rc a ha), fun ha => c.all (d.rc a ha)⟩)]
/-! ### what find_rows finds, seen as arrangements -/
theorem CloZ.clo {n : Nat} (hn : Sz n) {ps : List (List Nat)} (h : isPr n ps) {Z : ZT} (c : CloZ comb n ps Z) : Clo n ps (Z.map fun y => inv y.1) := by
  have hk : (Z.map fun y => inv y.1) = (keysZ Z).map inv := by unfold keysZ; rw [List.map_map]; rfl
  rw [hk]
  have hP := c.g.P
  refine ⟨?_, fun a ha => ?_, ?_, fun a ha p hp => ?_⟩
  · have nd := c.g.nd
    revert nd hP
    generalize keysZ Z = l
    intro hP nd
    exact (List.pairwise_map).mpr (nd.imp_of_mem fun {x y} hx hy hne e => hne (by rw [← (inv_facts hn (hP x hx)).2.2.2, e, (inv_facts hn (hP y hy)).2.2.2]))
  · obtain ⟨x, hx, rfl⟩ := List.mem_map.mp ha
    have r := c.rm x hx
    clear hx ha
    have : Rch n ps (inv x) ∧ isP n x := by
      induction r with
      | id => exact ⟨by rw [inv_id hn]; exact .id, idp_P n⟩
      | step _ hp ih => exact ⟨by rw [inv_comb hn ih.2 (h.all _ hp)]; exact .step ih.1 hp, comb_P ih.2 (h.all _ hp)⟩
    exact this.1
  · exact List.mem_map.mpr ⟨idp n, c.id, inv_id hn⟩
  · obtain ⟨x, hx, rfl⟩ := List.mem_map.mp ha
    exact List.mem_map.mpr ⟨comb x p, c.cl x hx p hp, inv_comb hn (hP x hx) (h.all p hp)⟩
theorem reachable_ok {n : Nat} (hn : Sz n) {ps L : List (List Nat)} (h : isPr n ps) (c : Clo n ps L) : m_reachable [alw ps] = some (.list ((sortK (L.map keyI)).map keyD)) := by
  unfold m_reachable
  rw [run_eq]
  show outO (b_reachable [.dat (alw ps), .bot, .bot]) = _
  unfold b_reachable
  obtain ⟨cz, e⟩ := find_rows_ok hn h
  rw [sSeq_nx (sExpr_ok (d := .none) (by simp only [v_var, v_own, v_varOf, v_ownOf, v_c, v_1, v_2, v_nil, v_cons, v_call, v_tup, v_lst, v_toL, v_ofL, v_toB, v_ofB, v_not, v_and, v_or, v_if, v_chain, v_ixL, v_part, v_tupL, v_l2, v_yes, v_mNil, v_mDat, v_mOwn, v_divmod, v_asL, v_asT, v_asB, v_asI, v_add, v_sub, v_neg, v_lt, v_le, v_gt, v_ge, v_isB, v_notB, v_isN, v_notN, v_isNi, v_isNn, bS, lineOk0, dIx_l, dIx_t, cLen_l, cLen_t, asSeq_l, asSeq_t, wipeD, setM, List.getElem?_cons_zero, List.getElem?_cons_succ, List.set_cons_zero, List.set_cons_succ, if_true, if_false, ite_true, ite_false, Bool.false_eq_true, Bool.not_true, Bool.not_false, check_allowed_ok hn h]))]
  have hc := cz.clo hn h
  have hz := cz.g.few hn
  have e1 : eLc [1, 2] (e1 asSeq (eCall m_find_rows (eCons (eVar 0) eNil))) (hTup (hsCons (hName 1) (hsCons (hName 2) hsNil))) eYes (eVar 1) [.dat (alw ps), .bot, .bot] = some ((Zall comb n ps).map fun y => pat (inv y.1)) := by
    rw [v_lc, e1_ok (d := .list ((Zall comb n ps).map rowD)) (by simp only [v_var, v_own, v_varOf, v_ownOf, v_c, v_1, v_2, v_nil, v_cons, v_call, v_tup, v_lst, v_toL, v_ofL, v_toB, v_ofB, v_not, v_and, v_or, v_if, v_chain, v_ixL, v_part, v_tupL, v_l2, v_yes, v_mNil, v_mDat, v_mOwn, v_divmod, v_asL, v_asT, v_asB, v_asI, v_add, v_sub, v_neg, v_lt, v_le, v_gt, v_ge, v_isB, v_notB, v_isN, v_notN, v_isNi, v_isNn, bS, lineOk0, dIx_l, dIx_t, cLen_l, cLen_t, asSeq_l, asSeq_t, wipeD, setM, List.getElem?_cons_zero, List.getElem?_cons_succ, List.set_cons_zero, List.set_cons_succ, if_true, if_false, ite_true, ite_false, Bool.false_eq_true, Bool.not_true, Bool.not_false, e]) (asSeq_l _), bS, lineOk_ok (by rw [List.length_map]; omega), bS]
    have := compD_filter (h := hTup (hsCons (hName 1) (hsCons (hName 2) hsNil))) (tt := eYes) (el := eVar 1) (ρ := [.dat (alw ps), .bot, .bot]) (fun _ => true) rowD (fun y => pat (inv y.1)) (xs := Zall comb n ps) fun y _ => ⟨_, rfl, rfl, rfl⟩
    rw [List.filter_eq_self.mpr fun _ _ => rfl] at this
    exact this
  rw [sRet_ok (d := .list ((sortK (L.map keyI)).map keyD)) (by
    rw [v_ofL]
    show ((eLc _ _ _ _ _ _).bind fun ds => lSortT (.list ds)).bind _ = _
    rw [e1, bS]
    have := hc.sort hn h c
    rw [List.map_map] at this
    rw [show ((Zall comb n ps).map fun y => pat (inv y.1)) = (Zall comb n ps).map (pat ∘ fun y => inv y.1) from rfl, this, bS])]
  rfl
/-! ### naively reachable -/
structure Nv (n : Nat) (ps L : List (List Nat)) : Prop where
  nd : L.Nodup
  rc : ∀ a ∈ L, Rch n ps a
  id : idp n ∈ L
theorem Nv.few {n : Nat} (hn : Sz n) {ps L : List (List Nat)} (h : isPr n ps) (v : Nv n ps L) : L.length ≤ 120 := few_P hn v.nd fun a ha => (v.rc a ha).P hn h
def bNv : DS := (sSeq (sSet 6 (eCall m_exchange (eCons (eVar 4) (eCons (eVar 5) eNil))))
  (sIf (e2 dNotIn (eVar 6) (eOfL (eOwn 1)))
  (sApp 1 (eVar 6))
  sNext))
abbrev envN (ps L : List (List Nat)) (b : Nat) (M : List (List Nat)) (z4 z5 z6 : DV) : DE := [.dat (alw ps), .own (L.map pat), .dat (.int (b : Int)), .dat (.list (M.map pat)), z4, z5, z6]
theorem nv_in {n : Nat} (hn : Sz n) {ps : List (List Nat)} (h : isPr n ps) {L M : List (List Nat)} {b : Nat} (v : Nv n ps L) {a p : List Nat} (ha : Rch n ps a) (hp : p ∈ ps) (z6 : DV) :
    ∃ R, Nv n ps (L ++ R) ∧ comb (inv p) a ∈ L ++ R ∧ bNv (envN ps L b M (.dat (pat a)) (.dat (pat p)) z6) = .nx (envN ps (L ++ R) b M (.dat (pat a)) (.dat (pat p)) (.dat (pat (comb (inv p) a)))) := by
  have hb := v.few hn h
  have hc : (e2 dNotIn (eVar 6) (eOfL (eOwn 1))) (envN ps L b M (.dat (pat a)) (.dat (pat p)) (.dat (pat (comb (inv p) a)))) = some (!decide (comb (inv p) a ∈ L)) := by
    simp only [v_var, v_own, v_varOf, v_ownOf, v_c, v_1, v_2, v_nil, v_cons, v_call, v_tup, v_lst, v_toL, v_ofL, v_toB, v_ofB, v_not, v_and, v_or, v_if, v_chain, v_ixL, v_part, v_tupL, v_l2, v_yes, v_mNil, v_mDat, v_mOwn, v_divmod, v_asL, v_asT, v_asB, v_asI, v_add, v_sub, v_neg, v_lt, v_le, v_gt, v_ge, v_isB, v_notB, v_isN, v_notN, v_isNi, v_isNn, bS, lineOk0, dIx_l, dIx_t, cLen_l, cLen_t, asSeq_l, asSeq_t, wipeD, setM, List.getElem?_cons_zero, List.getElem?_cons_succ, List.set_cons_zero, List.set_cons_succ, if_true, if_false, ite_true, ite_false, Bool.false_eq_true, Bool.not_true, Bool.not_false, dNotIn_pl]
  unfold bNv
  have e1 : sSet 6 (eCall m_exchange (eCons (eVar 4) (eCons (eVar 5) eNil))) (envN ps L b M (.dat (pat a)) (.dat (pat p)) z6) = .nx (envN ps L b M (.dat (pat a)) (.dat (pat p)) (.dat (pat (comb (inv p) a)))) :=
    sSet_ok (d := pat (comb (inv p) a)) (by simp only [v_var, v_own, v_varOf, v_ownOf, v_c, v_1, v_2, v_nil, v_cons, v_call, v_tup, v_lst, v_toL, v_ofL, v_toB, v_ofB, v_not, v_and, v_or, v_if, v_chain, v_ixL, v_part, v_tupL, v_l2, v_yes, v_mNil, v_mDat, v_mOwn, v_divmod, v_asL, v_asT, v_asB, v_asI, v_add, v_sub, v_neg, v_lt, v_le, v_gt, v_ge, v_isB, v_notB, v_isN, v_notN, v_isNi, v_isNn, bS, lineOk0, dIx_l, dIx_t, cLen_l, cLen_t, asSeq_l, asSeq_t, wipeD, setM, List.getElem?_cons_zero, List.getElem?_cons_succ, List.set_cons_zero, List.set_cons_succ, if_true, if_false, ite_true, ite_false, Bool.false_eq_true, Bool.not_true, Bool.not_false, exchange_ok hn (ha.P hn h) (h.all p hp)])
  rw [sSeq_nx e1]
  by_cases hm : comb (inv p) a ∈ L
  · exact ⟨[], by rw [List.append_nil]; exact v, by rw [List.append_nil]; exact hm, by rw [List.append_nil]; exact sIfN_f (hc.trans (by rw [decide_eq_true hm]; rfl))⟩
  · refine ⟨[comb (inv p) a], ⟨nodup_snoc v.nd hm, fun x hx => ?_, List.mem_append_left _ v.id⟩, List.mem_append_right _ List.mem_cons_self, ?_⟩
    · rcases List.mem_append.mp hx with hx | hx
      · exact v.rc x hx
      · rw [List.mem_singleton.mp hx]; exact .step ha hp
    · rw [sIf_t (hc.trans (by rw [decide_eq_false hm]; rfl)), sApp_ok (d := pat (comb (inv p) a)) (ds := L.map pat) (by simp only [v_var, v_own, v_varOf, v_ownOf, v_c, v_1, v_2, v_nil, v_cons, v_call, v_tup, v_lst, v_toL, v_ofL, v_toB, v_ofB, v_not, v_and, v_or, v_if, v_chain, v_ixL, v_part, v_tupL, v_l2, v_yes, v_mNil, v_mDat, v_mOwn, v_divmod, v_asL, v_asT, v_asB, v_asI, v_add, v_sub, v_neg, v_lt, v_le, v_gt, v_ge, v_isB, v_notB, v_isN, v_notN, v_isNi, v_isNn, bS, lineOk0, dIx_l, dIx_t, cLen_l, cLen_t, asSeq_l, asSeq_t, wipeD, setM, List.getElem?_cons_zero, List.getElem?_cons_succ, List.set_cons_zero, List.set_cons_succ, if_true, if_false, ite_true, ite_false, Bool.false_eq_true, Bool.not_true, Bool.not_false]) rfl (by rw [List.length_map]; omega)]
      rw [show L.map pat ++ [pat (comb (inv p) a)] = (L ++ [comb (inv p) a]).map pat by rw [List.map_append]; rfl]
      rfl
theorem nv_mid {n : Nat} (hn : Sz n) {ps : List (List Nat)} (h : isPr n ps) {M : List (List Nat)} {b : Nat} {a : List Nat} (ha : Rch n ps a) : ∀ (l : List (List Nat)) (L : List (List Nat)), (∀ p ∈ l, p ∈ ps) → Nv n ps L → ∀ z5 z6 : DV,
    ∃ R z5' z6', Nv n ps (L ++ R) ∧ (∀ p ∈ l, comb (inv p) a ∈ L ++ R) ∧ forD (hName 5) bNv (l.map pat) (envN ps L b M (.dat (pat a)) z5 z6) = .nx (envN ps (L ++ R) b M (.dat (pat a)) z5' z6')
  | [], L, _, v, z5, z6 => ⟨[], z5, z6, by rw [List.append_nil]; exact v, (fun p hp => by cases hp), by rw [List.append_nil]; rfl⟩
  | p :: l, L, hl, v, z5, z6 => by
    obtain ⟨R1, v1, k1, e1⟩ := nv_in hn h (M := M) (b := b) v ha (hl p List.mem_cons_self) z6
    obtain ⟨R2, y5, y6, v2, k2, e2⟩ := nv_mid hn h (M := M) (b := b) ha l (L ++ R1) (fun q hq => hl q (List.mem_cons_of_mem _ hq)) v1 (.dat (pat p)) (.dat (pat (comb (inv p) a)))
    rw [List.append_assoc] at v2 e2
    refine ⟨R1 ++ R2, y5, y6, v2, fun q hq => ?_, ?_⟩
    · rcases List.mem_cons.mp hq with rfl | hq
      · rw [← List.append_assoc]; exact List.mem_append_left _ k1
      · rw [← List.append_assoc]; exact k2 q hq
    · rw [List.map_cons, forD_nx' (ρ1 := envN ps L b M (.dat (pat a)) (.dat (pat p)) z6) rfl e1]
      exact e2
theorem nv_round {n : Nat} (hn : Sz n) {ps : List (List Nat)} (h : isPr n ps) {M : List (List Nat)} {b : Nat} : ∀ (l : List (List Nat)) (L : List (List Nat)), (∀ a ∈ l, Rch n ps a) → Nv n ps L → ∀ z4 z5 z6 : DV,
    ∃ R z4' z5' z6', Nv n ps (L ++ R) ∧ (∀ a ∈ l, ∀ p ∈ ps, comb (inv p) a ∈ L ++ R) ∧ forD (hName 4) (sFor (e1 asSeq (eVar 0)) (hName 5) bNv) (l.map pat) (envN ps L b M z4 z5 z6) = .nx (envN ps (L ++ R) b M z4' z5' z6')
  | [], L, _, v, z4, z5, z6 => ⟨[], z4, z5, z6, by rw [List.append_nil]; exact v, (fun p hp => by cases hp), by rw [List.append_nil]; rfl⟩
  | a :: l, L, hl, v, z4, z5, z6 => by
    obtain ⟨R1, y5, y6, v1, k1, e1⟩ := nv_mid hn h (M := M) (b := b) (hl a List.mem_cons_self) ps L (fun _ hp => hp) v z5 z6
    obtain ⟨R2, w4, w5, w6, v2, k2, e2⟩ := nv_round hn h (M := M) (b := b) l (L ++ R1) (fun q hq => hl q (List.mem_cons_of_mem _ hq)) v1 (.dat (pat a)) y5 y6
    rw [List.append_assoc] at v2 e2
    refine ⟨R1 ++ R2, w4, w5, w6, v2, fun q hq p hp => ?_, ?_⟩
    · rcases List.mem_cons.mp hq with rfl | hq
      · rw [← List.append_assoc]; exact List.mem_append_left _ (k1 p hp)
      · rw [← List.append_assoc]; exact k2 q hq p hp
    · rw [List.map_cons, forD_nx' (ρ1 := envN ps L b M (.dat (pat a)) z5 z6) rfl ((sFor_ok (ds := ps.map pat) (by simp only [v_var, v_own, v_varOf, v_ownOf, v_c, v_1, v_2, v_nil, v_cons, v_call, v_tup, v_lst, v_toL, v_ofL, v_toB, v_ofB, v_not, v_and, v_or, v_if, v_chain, v_ixL, v_part, v_tupL, v_l2, v_yes, v_mNil, v_mDat, v_mOwn, v_divmod, v_asL, v_asT, v_asB, v_asI, v_add, v_sub, v_neg, v_lt, v_le, v_gt, v_ge, v_isB, v_notB, v_isN, v_notN, v_isNi, v_isNn, bS, lineOk0, dIx_l, dIx_t, cLen_l, cLen_t, asSeq_l, asSeq_t, wipeD, setM, List.getElem?_cons_zero, List.getElem?_cons_succ, List.set_cons_zero, List.set_cons_succ, if_true, if_false, ite_true, ite_false, Bool.false_eq_true, Bool.not_true, Bool.not_false, asSeq_alw])).trans e1)]
      exact e2
theorem naive_reachable_ok {n : Nat} (hn : Sz n) {ps : List (List Nat)} (h : isPr n ps) : ∃ L, Clo n ps L ∧ m_naive_reachable [alw ps] = lSortT (.list (L.map pat)) >>= fun ds => some (.list ds) := by
  unfold m_naive_reachable
  simp only [run_eq]
  show ∃ L, Clo n ps L ∧ outO (b_naive_reachable [.dat (alw ps), .bot, .bot, .bot, .bot, .bot, .bot]) = _
  unfold b_naive_reachable
  have h5 := hn.le
  rw [sSeq_nx (sExpr_ok (d := .none) (by simp only [v_var, v_own, v_varOf, v_ownOf, v_c, v_1, v_2, v_nil, v_cons, v_call, v_tup, v_lst, v_toL, v_ofL, v_toB, v_ofB, v_not, v_and, v_or, v_if, v_chain, v_ixL, v_part, v_tupL, v_l2, v_yes, v_mNil, v_mDat, v_mOwn, v_divmod, v_asL, v_asT, v_asB, v_asI, v_add, v_sub, v_neg, v_lt, v_le, v_gt, v_ge, v_isB, v_notB, v_isN, v_notN, v_isNi, v_isNn, bS, lineOk0, dIx_l, dIx_t, cLen_l, cLen_t, asSeq_l, asSeq_t, wipeD, setM, List.getElem?_cons_zero, List.getElem?_cons_succ, List.set_cons_zero, List.set_cons_succ, if_true, if_false, ite_true, ite_false, Bool.false_eq_true, Bool.not_true, Bool.not_false, check_allowed_ok hn h]))]
  have e0 : eTupL (rgN (eCall cLen (eCons (e2 dIx (eVar 0) (eC (.int 0))) eNil))) [.dat (alw ps), .bot, .bot, .bot, .bot, .bot, .bot] = some (pat (idp n)) := by
    rw [v_tupL, rgN_ok n (by omega) (by simp only [v_var, v_own, v_varOf, v_ownOf, v_c, v_1, v_2, v_nil, v_cons, v_call, v_tup, v_lst, v_toL, v_ofL, v_toB, v_ofB, v_not, v_and, v_or, v_if, v_chain, v_ixL, v_part, v_tupL, v_l2, v_yes, v_mNil, v_mDat, v_mOwn, v_divmod, v_asL, v_asT, v_asB, v_asI, v_add, v_sub, v_neg, v_lt, v_le, v_gt, v_ge, v_isB, v_notB, v_isN, v_notN, v_isNi, v_isNn, bS, lineOk0, dIx_l, dIx_t, cLen_l, cLen_t, asSeq_l, asSeq_t, wipeD, setM, List.getElem?_cons_zero, List.getElem?_cons_succ, List.set_cons_zero, List.set_cons_succ, if_true, if_false, ite_true, ite_false, Bool.false_eq_true, Bool.not_true, Bool.not_false, dIx_alw0 h.pos, cLen_pat (nth_P h h.pos)]), bS]; rfl
  rw [sSeq_nx (sPar_ok (xs := [.own ([idp n].map pat), .dat (.int ((0 : Nat) : Int))]) (by
    rw [v_mOwn, v_lst, v_cons, e0, bS, v_nil, bS, bS, lineOk1, bS]
    simp only [v_var, v_own, v_varOf, v_ownOf, v_c, v_1, v_2, v_nil, v_cons, v_call, v_tup, v_lst, v_toL, v_ofL, v_toB, v_ofB, v_not, v_and, v_or, v_if, v_chain, v_ixL, v_part, v_tupL, v_l2, v_yes, v_mNil, v_mDat, v_mOwn, v_divmod, v_asL, v_asT, v_asB, v_asI, v_add, v_sub, v_neg, v_lt, v_le, v_gt, v_ge, v_isB, v_notB, v_isN, v_notN, v_isNi, v_isNn, bS, lineOk0, dIx_l, dIx_t, cLen_l, cLen_t, asSeq_l, asSeq_t, wipeD, setM, List.getElem?_cons_zero, List.getElem?_cons_succ, List.set_cons_zero, List.set_cons_succ, if_true, if_false, ite_true, ite_false, Bool.false_eq_true, Bool.not_true, Bool.not_false]
    rfl))]
  simp only [setM, List.set_cons_succ, List.set_cons_zero]
  have hcond : ∀ (L : List (List Nat)) (b : Nat) (z3 z4 z5 z6 : DV), e2 dLt (eVar 2) (eCall cLen (eCons (eOfL (eOwn 1)) eNil)) [.dat (alw ps), .own (L.map pat), .dat (.int (b : Int)), z3, z4, z5, z6] = some (decide (b < L.length)) := fun L b z3 z4 z5 z6 => by
    simp only [v_var, v_own, v_varOf, v_ownOf, v_c, v_1, v_2, v_nil, v_cons, v_call, v_tup, v_lst, v_toL, v_ofL, v_toB, v_ofB, v_not, v_and, v_or, v_if, v_chain, v_ixL, v_part, v_tupL, v_l2, v_yes, v_mNil, v_mDat, v_mOwn, v_divmod, v_asL, v_asT, v_asB, v_asI, v_add, v_sub, v_neg, v_lt, v_le, v_gt, v_ge, v_isB, v_notB, v_isN, v_notN, v_isNi, v_isNn, bS, lineOk0, dIx_l, dIx_t, cLen_l, cLen_t, asSeq_l, asSeq_t, wipeD, setM, List.getElem?_cons_zero, List.getElem?_cons_succ, List.set_cons_zero, List.set_cons_succ, if_true, if_false, ite_true, ite_false, Bool.false_eq_true, Bool.not_true, Bool.not_false, List.length_map]
    exact congrArg some (decide_eq_decide.mpr (by omega))
  obtain ⟨ρ', h2, ⟨L, b, z3, z4, z5, z6, v, hb, hcl, rfl⟩, hend⟩ := while_inv (c := e2 dLt (eVar 2) (eCall cLen (eCons (eOfL (eOwn 1)) eNil))) (b := (sSeq (sPar [2, 3] (mDat (eCall cLen (eCons (eOfL (eOwn 1)) eNil)) (mDat (eOfL (eOwn 1)) mNil)))
  (sFor (e1 asSeq (eVar 3)) (hName 4)
  (sFor (e1 asSeq (eVar 0)) (hName 5) bNv))))
    (fun ρ => ∃ (L : List (List Nat)) (b : Nat) (z3 z4 z5 z6 : DV), Nv n ps L ∧ b ≤ L.length ∧ (∀ a ∈ L.take b, ∀ p ∈ ps, comb (inv p) a ∈ L) ∧ ρ = [.dat (alw ps), .own (L.map pat), .dat (.int (b : Int)), z3, z4, z5, z6])
    (fun ρ => 121 - (match ρ[2]? with | some (DV.dat (.int b)) => b.toNat | _ => 0))
    (fun ρ ⟨L, b, z3, z4, z5, z6, v, hb, hcl, e⟩ => by
      subst e
      rw [hcond]
      by_cases hm : b < L.length
      · rw [decide_eq_true hm]
        obtain ⟨R, y4, y5, y6, v', k2, e⟩ := nv_round hn h (M := L) (b := L.length) L L v.rc v z4 z5 z6
        have hf := v.few hn h
        refine .inr ⟨rfl, envN ps (L ++ R) L.length L y4 y5 y6, .inl ?_, ⟨L ++ R, L.length, _, _, _, _, v', by rw [List.length_append]; omega, fun a ha p hp => k2 a (by rw [List.take_left] at ha; exact ha) p hp, rfl⟩, ?_⟩
        · rw [sSeq_nx (sPar_ok (xs := [.dat (.int (L.length : Int)), .dat (.list (L.map pat))]) (by simp only [v_var, v_own, v_varOf, v_ownOf, v_c, v_1, v_2, v_nil, v_cons, v_call, v_tup, v_lst, v_toL, v_ofL, v_toB, v_ofB, v_not, v_and, v_or, v_if, v_chain, v_ixL, v_part, v_tupL, v_l2, v_yes, v_mNil, v_mDat, v_mOwn, v_divmod, v_asL, v_asT, v_asB, v_asI, v_add, v_sub, v_neg, v_lt, v_le, v_gt, v_ge, v_isB, v_notB, v_isN, v_notN, v_isNi, v_isNn, bS, lineOk0, dIx_l, dIx_t, cLen_l, cLen_t, asSeq_l, asSeq_t, wipeD, setM, List.getElem?_cons_zero, List.getElem?_cons_succ, List.set_cons_zero, List.set_cons_succ, if_true, if_false, ite_true, ite_false, Bool.false_eq_true, Bool.not_true, Bool.not_false, List.length_map]))]
          simp only [setM, List.set_cons_succ, List.set_cons_zero]
          exact (sFor_ok (ds := L.map pat) (by simp only [v_var, v_own, v_varOf, v_ownOf, v_c, v_1, v_2, v_nil, v_cons, v_call, v_tup, v_lst, v_toL, v_ofL, v_toB, v_ofB, v_not, v_and, v_or, v_if, v_chain, v_ixL, v_part, v_tupL, v_l2, v_yes, v_mNil, v_mDat, v_mOwn, v_divmod, v_asL, v_asT, v_asB, v_asI, v_add, v_sub, v_neg, v_lt, v_le, v_gt, v_ge, v_isB, v_notB, v_isN, v_notN, v_isNi, v_isNn, bS, lineOk0, dIx_l, dIx_t, cLen_l, cLen_t, asSeq_l, asSeq_t, wipeD, setM, List.getElem?_cons_zero, List.getElem?_cons_succ, List.set_cons_zero, List.set_cons_succ, if_true, if_false, ite_true, ite_false, Bool.false_eq_true, Bool.not_true, Bool.not_false])).trans e
        · show 121 - ((L.length : Int)).toNat < 121 - ((b : Int)).toNat
          rw [Int.toNat_natCast, Int.toNat_natCast]
          omega
      · rw [decide_eq_false hm]; exact .inl rfl) FUEL [.dat (alw ps), .own ([idp n].map pat), .dat (.int ((0 : Nat) : Int)), .bot, .bot, .bot, .bot]
    ⟨[idp n], 0, _, _, _, _, ⟨by simp, fun a ha => by
      have : a = idp n := by simpa using ha
      rw [this]; exact .id, List.mem_cons_self⟩, Nat.zero_le _, (fun a ha => by cases ha), rfl⟩ (by
      show 121 - 0 < 100000
      omega)
  rw [hcond] at hend
  have hm : ¬ b < L.length := by
    intro hm
    rw [decide_eq_true hm] at hend; cases hend
  have hbl : b = L.length := by omega
  subst hbl
  rw [List.take_length] at hcl
  refine ⟨L, ⟨v.nd, v.rc, v.id, hcl⟩, ?_⟩
  refine (congrArg outO (sSeq_nx h2)).trans ?_
  have c : Clo n ps L := ⟨v.nd, v.rc, v.id, hcl⟩
  rw [c.sort hn h c]
  rw [sRet_ok (d := .list ((sortK (L.map keyI)).map keyD)) (by
    rw [v_ofL]
    show ((some (L.map pat)).bind fun ds => lSortT (.list ds)).bind _ = _
    rw [bS, c.sort hn h c, bS])]
  rfl
end DL

namespace DL
open PySem PySem.Spec L2
theorem pats_all : ([3, 4, 5].all fun n => (pats n).all fun p => decide (p.length = n) && p.all (fun x => Nat.blt x n) && nodB p) = true := by decide +kernel
theorem pats_P {n : Nat} (hn : Sz n) {p : List Nat} (hp : p ∈ pats n) : isP n p := by
  have h1 : n ∈ [3, 4, 5] := by rcases hn with rfl | rfl | rfl <;> simp
  have := List.all_eq_true.mp (List.all_eq_true.mp pats_all n h1) p hp
  simp only [Bool.and_eq_true, decide_eq_true_eq, List.all_eq_true] at this
  exact ⟨this.1.1, fun x hx => Nat.le_of_ble_eq_true (this.1.2 x hx), nodB_nd this.2⟩
def badPL : List D := [.none, .tuple [], pat [0, 1], pat [0, 1, 1], pat [0, 1, 3], pat [1, 2, 3], .list (nums [0, 1, 2]), pat [0, 1, 2, 3, 4, 5], .tuple [.int 0, .bool true, .int 2], .tuple [.int 0, .str "1", .int 2], .int 5]
theorem badP_all : badPL.all (fun d => isErr "InvalidPattern" (x_check_pattern [d])) = true := by kernel_rfl
theorem x_badP {d : D} (h : d ∈ badPL) : x_check_pattern [d] = .err "InvalidPattern" := isErr_eq (List.all_eq_true.mp badP_all d h)
theorem x_pat_ok {n : Nat} (hn : Sz n) {p : List Nat} (hp : isP n p) : x_check_pattern [pat p] = .ok .none := by
  unfold x_check_pattern
  rw [runX_eq]
  show outX (bx_check_pattern [.dat (pat p)]) = _
  unfold bx_check_pattern
  rw [sIfN_f (by simp only [v_var, v_own, v_varOf, v_ownOf, v_c, v_1, v_2, v_nil, v_cons, v_call, v_tup, v_lst, v_toL, v_ofL, v_toB, v_ofB, v_not, v_and, v_or, v_if, v_chain, v_ixL, v_part, v_tupL, v_l2, v_yes, v_mNil, v_mDat, v_mOwn, v_divmod, v_asL, v_asT, v_asB, v_asI, v_add, v_sub, v_neg, v_lt, v_le, v_gt, v_ge, v_isB, v_notB, v_isN, v_notN, v_isNi, v_isNn, bS, lineOk0, dIx_l, dIx_t, cLen_l, cLen_t, asSeq_l, asSeq_t, wipeD, setM, List.getElem?_cons_zero, List.getElem?_cons_succ, List.set_cons_zero, List.set_cons_succ, if_true, if_false, ite_true, ite_false, Bool.false_eq_true, Bool.not_true, Bool.not_false, is_pattern_ok hn hp])]
  rfl
theorem x_alw_ok {n : Nat} (hn : Sz n) {ps : List (List Nat)} (h : isPr n ps) : x_check_allowed [alw ps] = .ok .none := by
  unfold x_check_allowed
  rw [runX_eq]
  show outX (bx_check_allowed [.dat (alw ps)]) = _
  unfold bx_check_allowed
  rw [sIfN_f (by simp only [v_var, v_own, v_varOf, v_ownOf, v_c, v_1, v_2, v_nil, v_cons, v_call, v_tup, v_lst, v_toL, v_ofL, v_toB, v_ofB, v_not, v_and, v_or, v_if, v_chain, v_ixL, v_part, v_tupL, v_l2, v_yes, v_mNil, v_mDat, v_mOwn, v_divmod, v_asL, v_asT, v_asB, v_asI, v_add, v_sub, v_neg, v_lt, v_le, v_gt, v_ge, v_isB, v_notB, v_isN, v_notN, v_isNi, v_isNn, bS, lineOk0, dIx_l, dIx_t, cLen_l, cLen_t, asSeq_l, asSeq_t, wipeD, setM, List.getElem?_cons_zero, List.getElem?_cons_succ, List.set_cons_zero, List.set_cons_succ, if_true, if_false, ite_true, ite_false, Bool.false_eq_true, Bool.not_true, Bool.not_false, isK_alw, are_patterns_alw hn h])]
  rfl
theorem x_alw_prog (ps : List (List Nat)) : x_check_allowed [prog ps] = .err "InvalidAllowed" := by
  unfold x_check_allowed
  rw [runX_eq]
  show outX (bx_check_allowed [.dat (prog ps)]) = _
  unfold bx_check_allowed
  have hk : dIsK "list" (prog ps) = some false := rfl
  exact outX_err ((sIf_t (by simp only [v_var, v_own, v_varOf, v_ownOf, v_c, v_1, v_2, v_nil, v_cons, v_call, v_tup, v_lst, v_toL, v_ofL, v_toB, v_ofB, v_not, v_and, v_or, v_if, v_chain, v_ixL, v_part, v_tupL, v_l2, v_yes, v_mNil, v_mDat, v_mOwn, v_divmod, v_asL, v_asT, v_asB, v_asI, v_add, v_sub, v_neg, v_lt, v_le, v_gt, v_ge, v_isB, v_notB, v_isN, v_notN, v_isNi, v_isNn, bS, lineOk0, dIx_l, dIx_t, cLen_l, cLen_t, asSeq_l, asSeq_t, wipeD, setM, List.getElem?_cons_zero, List.getElem?_cons_succ, List.set_cons_zero, List.set_cons_succ, if_true, if_false, ite_true, ite_false, Bool.false_eq_true, Bool.not_true, Bool.not_false, hk])).trans rfl)

theorem badpattern_ok (ns : List Int) (hl : ns.length ≤ 63) (k : Nat) (hk : k < 90000) : ∃ d, d ∈ badPL ∧ m__law_badpattern [script ns, .int (k : Int)] = some d := by
  obtain ⟨r, hr, e⟩ := drawn_ok ns hl k 11 (by omega) (by omega)
  have hr' : r < badPL.length := hr
  have e' : m__law_drawn [script ns, .int (k : Int), .int 11] = some (.int (r : Int)) := e
  refine ⟨badPL[r], List.getElem_mem hr', ?_⟩
  unfold m__law_badpattern
  rw [run_eq]
  show outO (b__law_badpattern [.dat (script ns), .dat (.int (k : Int)), .bot]) = _
  have e1 : ∀ x y : DV, ∀ t : DS, b__law_badpattern [x, y, .bot] = (sRet (e2 dIx (eVar 2) (eCall m__law_drawn (eCons (eVar 0) (eCons (eVar 1) (eCons (eC (.int 11)) eNil)))))) [x, y, .dat (.list badPL)] := fun x y _ => by
    unfold b__law_badpattern
    refine (sSeq_nx (ρ' := [x, y, .dat (.list (badPL.take 8))]) (by kernel_rfl)).trans ((sSeq_nx (ρ' := [x, y, .dat (.list badPL)]) (by kernel_rfl)).trans rfl)
  rw [e1 _ _ sNext, sRet_ok (d := badPL[r]) (by simp only [v_var, v_own, v_varOf, v_ownOf, v_c, v_1, v_2, v_nil, v_cons, v_call, v_tup, v_lst, v_toL, v_ofL, v_toB, v_ofB, v_not, v_and, v_or, v_if, v_chain, v_ixL, v_part, v_tupL, v_l2, v_yes, v_mNil, v_mDat, v_mOwn, v_divmod, v_asL, v_asT, v_asB, v_asI, v_add, v_sub, v_neg, v_lt, v_le, v_gt, v_ge, v_isB, v_notB, v_isN, v_notN, v_isNi, v_isNn, bS, lineOk0, dIx_l, dIx_t, cLen_l, cLen_t, asSeq_l, asSeq_t, wipeD, setM, List.getElem?_cons_zero, List.getElem?_cons_succ, List.set_cons_zero, List.set_cons_succ, if_true, if_false, ite_true, ite_false, Bool.false_eq_true, Bool.not_true, Bool.not_false, e']; exact atI_ok (List.getElem?_eq_getElem hr'))]
  rfl
theorem ord_all : ([3, 4, 5].all fun n => (pats n).all fun p => sameO (m_naive_order [pat p]) (.int (T n [p] : Nat)) && sameO (m_order [pat p]) (.int (T n [p] : Nat))) = true := by kernel_rfl
theorem orders_ok {n : Nat} (hn : Sz n) {p : List Nat} (hp : isP n p) : m_naive_order [pat p] = some (.int (T n [p] : Nat)) ∧ m_order [pat p] = some (.int (T n [p] : Nat)) := by
  have h1 : n ∈ [3, 4, 5] := by rcases hn with rfl | rfl | rfl <;> simp
  have := List.all_eq_true.mp (List.all_eq_true.mp ord_all n h1) p hp.mem
  rw [Bool.and_eq_true] at this
  exact ⟨sameO_eq this.1, sameO_eq this.2⟩
theorem one_pr {n : Nat} {p : List Nat} (hp : isP n p) : isPr n [p] := ⟨Nat.succ_pos _, show 1 ≤ 4 by omega, fun q hq => by rw [List.mem_singleton.mp hq]; exact hp⟩
/-! ### what raises -/
theorem x_no_err {d : D} {c : Str} (h : x_check_pattern [d] = .err c) : x_naive_order [d] = .err c := by
  unfold x_naive_order
  rw [runX_eq]
  show outX (bx_naive_order [.dat d, .bot, .bot, .bot]) = _
  unfold bx_naive_order
  exact outX_err (sSeq_err (sExprX_err (by rw [xCall_of (ds := [d]) (by simp only [v_var, v_own, v_varOf, v_ownOf, v_c, v_1, v_2, v_nil, v_cons, v_call, v_tup, v_lst, v_toL, v_ofL, v_toB, v_ofB, v_not, v_and, v_or, v_if, v_chain, v_ixL, v_part, v_tupL, v_l2, v_yes, v_mNil, v_mDat, v_mOwn, v_divmod, v_asL, v_asT, v_asB, v_asI, v_add, v_sub, v_neg, v_lt, v_le, v_gt, v_ge, v_isB, v_notB, v_isN, v_notN, v_isNi, v_isNn, bS, lineOk0, dIx_l, dIx_t, cLen_l, cLen_t, asSeq_l, asSeq_t, wipeD, setM, List.getElem?_cons_zero, List.getElem?_cons_succ, List.set_cons_zero, List.set_cons_succ, if_true, if_false, ite_true, ite_false, Bool.false_eq_true, Bool.not_true, Bool.not_false]), h])))
theorem x_nr_err {d : D} {c : Str} (h : x_check_allowed [d] = .err c) : x_naive_reachable [d] = .err c := by
  unfold x_naive_reachable
  rw [runX_eq]
  show outX (bx_naive_reachable [.dat d, .bot, .bot, .bot, .bot, .bot, .bot]) = _
  unfold bx_naive_reachable
  exact outX_err (sSeq_err (sExprX_err (by rw [xCall_of (ds := [d]) (by simp only [v_var, v_own, v_varOf, v_ownOf, v_c, v_1, v_2, v_nil, v_cons, v_call, v_tup, v_lst, v_toL, v_ofL, v_toB, v_ofB, v_not, v_and, v_or, v_if, v_chain, v_ixL, v_part, v_tupL, v_l2, v_yes, v_mNil, v_mDat, v_mOwn, v_divmod, v_asL, v_asT, v_asB, v_asI, v_add, v_sub, v_neg, v_lt, v_le, v_gt, v_ge, v_isB, v_notB, v_isN, v_notN, v_isNi, v_isNn, bS, lineOk0, dIx_l, dIx_t, cLen_l, cLen_t, asSeq_l, asSeq_t, wipeD, setM, List.getElem?_cons_zero, List.getElem?_cons_succ, List.set_cons_zero, List.set_cons_succ, if_true, if_false, ite_true, ite_false, Bool.false_eq_true, Bool.not_true, Bool.not_false]), h])))
theorem told_ok {way : Nat} {d : D} (h : (way = 0 ∧ x_naive_order [d] = .err "InvalidPattern") ∨ (way = 1 ∧ x_naive_reachable [d] = .err "InvalidAllowed")) : m__law_error [.int (way : Int), d] = some (.int (way : Int)) := by
  unfold m__law_error
  rw [run_eq]
  show outO (b__law_error [.dat (.int (way : Int)), .dat d, .bot]) = _
  unfold b__law_error
  rcases h with ⟨rfl, h⟩ | ⟨rfl, h⟩
  · exact (congrArg outO (sSeq_ret (sTry_err (d := .int ((0 : Nat) : Int)) (c := "InvalidPattern") (ρ' := [.dat (.int ((0 : Nat) : Int)), .dat d, .bot]) (sExprX_err (by rw [xCallL_of (j := 0) (m := x_naive_order) (ds := [d]) (by simp only [v_var, v_own, v_varOf, v_ownOf, v_c, v_1, v_2, v_nil, v_cons, v_call, v_tup, v_lst, v_toL, v_ofL, v_toB, v_ofB, v_not, v_and, v_or, v_if, v_chain, v_ixL, v_part, v_tupL, v_l2, v_yes, v_mNil, v_mDat, v_mOwn, v_divmod, v_asL, v_asT, v_asB, v_asI, v_add, v_sub, v_neg, v_lt, v_le, v_gt, v_ge, v_isB, v_notB, v_isN, v_notN, v_isNi, v_isNn, bS, lineOk0, dIx_l, dIx_t, cLen_l, cLen_t, asSeq_l, asSeq_t, wipeD, setM, List.getElem?_cons_zero, List.getElem?_cons_succ, List.set_cons_zero, List.set_cons_succ, if_true, if_false, ite_true, ite_false, Bool.false_eq_true, Bool.not_true, Bool.not_false]) rfl (by simp only [v_var, v_own, v_varOf, v_ownOf, v_c, v_1, v_2, v_nil, v_cons, v_call, v_tup, v_lst, v_toL, v_ofL, v_toB, v_ofB, v_not, v_and, v_or, v_if, v_chain, v_ixL, v_part, v_tupL, v_l2, v_yes, v_mNil, v_mDat, v_mOwn, v_divmod, v_asL, v_asT, v_asB, v_asI, v_add, v_sub, v_neg, v_lt, v_le, v_gt, v_ge, v_isB, v_notB, v_isN, v_notN, v_isNi, v_isNn, bS, lineOk0, dIx_l, dIx_t, cLen_l, cLen_t, asSeq_l, asSeq_t, wipeD, setM, List.getElem?_cons_zero, List.getElem?_cons_succ, List.set_cons_zero, List.set_cons_succ, if_true, if_false, ite_true, ite_false, Bool.false_eq_true, Bool.not_true, Bool.not_false]), h])) (by decide) (show 2 < 3 by omega) (by kernel_rfl)))).trans rfl
  · exact (congrArg outO (sSeq_ret (sTry_err (d := .int ((1 : Nat) : Int)) (c := "InvalidAllowed") (ρ' := [.dat (.int ((1 : Nat) : Int)), .dat d, .bot]) (sExprX_err (by rw [xCallL_of (j := 1) (m := x_naive_reachable) (ds := [d]) (by simp only [v_var, v_own, v_varOf, v_ownOf, v_c, v_1, v_2, v_nil, v_cons, v_call, v_tup, v_lst, v_toL, v_ofL, v_toB, v_ofB, v_not, v_and, v_or, v_if, v_chain, v_ixL, v_part, v_tupL, v_l2, v_yes, v_mNil, v_mDat, v_mOwn, v_divmod, v_asL, v_asT, v_asB, v_asI, v_add, v_sub, v_neg, v_lt, v_le, v_gt, v_ge, v_isB, v_notB, v_isN, v_notN, v_isNi, v_isNn, bS, lineOk0, dIx_l, dIx_t, cLen_l, cLen_t, asSeq_l, asSeq_t, wipeD, setM, List.getElem?_cons_zero, List.getElem?_cons_succ, List.set_cons_zero, List.set_cons_succ, if_true, if_false, ite_true, ite_false, Bool.false_eq_true, Bool.not_true, Bool.not_false]) rfl (by simp only [v_var, v_own, v_varOf, v_ownOf, v_c, v_1, v_2, v_nil, v_cons, v_call, v_tup, v_lst, v_toL, v_ofL, v_toB, v_ofB, v_not, v_and, v_or, v_if, v_chain, v_ixL, v_part, v_tupL, v_l2, v_yes, v_mNil, v_mDat, v_mOwn, v_divmod, v_asL, v_asT, v_asB, v_asI, v_add, v_sub, v_neg, v_lt, v_le, v_gt, v_ge, v_isB, v_notB, v_isN, v_notN, v_isNi, v_isNn, bS, lineOk0, dIx_l, dIx_t, cLen_l, cLen_t, asSeq_l, asSeq_t, wipeD, setM, List.getElem?_cons_zero, List.getElem?_cons_succ, List.set_cons_zero, List.set_cons_succ, if_true, if_false, ite_true, ite_false, Bool.false_eq_true, Bool.not_true, Bool.not_false]), h])) (by decide) (show 2 < 3 by omega) (by kernel_rfl)))).trans rfl
def badAL : List D := [.none, .tuple [], .list [], .list [pat [0, 1, 1]], .list [pat [0, 1, 2], pat [0, 1, 2, 3]], .list (List.replicate 5 (pat [0, 1, 2]))]
theorem badAL_all : badAL.all (fun d => isErr "InvalidAllowed" (x_check_allowed [d])) = true := by kernel_rfl
theorem x_badA {d : D} (h : d ∈ badAL) : x_check_allowed [d] = .err "InvalidAllowed" := isErr_eq (List.all_eq_true.mp badAL_all d h)
theorem pats_loop {n : Nat} (hn : Sz n) {ps : List (List Nat)} (h : isPr n ps) (a0 a2 a3 a4 a5 a6 : DV) :
    ∃ y2 y3, sFor (e1 asSeq (eVar 1)) (hName 2) p_law_1 [a0, .dat (prog ps), a2, a3, a4, a5, a6] = .nx [a0, .dat (prog ps), y2, y3, a4, a5, a6] := by
  obtain ⟨ρ', h1, ⟨y2, y3, rfl⟩⟩ := for_inv (h := hName 2) (b := p_law_1) (fun i ρ => ∃ y2 y3 : DV, ρ = [a0, .dat (prog ps), y2, y3, a4, a5, a6])
    (ds := ps.map pat) (k := 0) (ρ := [a0, .dat (prog ps), a2, a3, a4, a5, a6]) ⟨_, _, rfl⟩
    (fun i d ρ hd ⟨y2, y3, e⟩ => by
      subst e
      obtain ⟨hi, rfl⟩ := range_get' (u := pat) hd
      have hp := h.all _ (List.getElem_mem hi)
      obtain ⟨o1, o2⟩ := orders_ok hn hp
      have tt : m__law_turn [.tuple [pat ps[i]]] = some (.list (rowsP n [ps[i]])) := law_turn_ok hn (one_pr hp)
      have cl : cLen [.list (rowsP n [ps[i]])] = some (.int (T n [ps[i]] : Nat)) := cLen_upto _ _
      refine ⟨[a0, .dat (prog ps), .dat (pat ps[i]), y3, a4, a5, a6], _, rfl, .inl ?_, .dat (pat ps[i]), .dat (.int (T n [ps[i]] : Nat)), rfl⟩
      unfold p_law_1
      rw [sSeq_nx (sSet_ok (d := .int (T n [ps[i]] : Nat)) (by
        simp only [v_var, v_own, v_varOf, v_ownOf, v_c, v_1, v_2, v_nil, v_cons, v_call, v_tup, v_lst, v_toL, v_ofL, v_toB, v_ofB, v_not, v_and, v_or, v_if, v_chain, v_ixL, v_part, v_tupL, v_l2, v_yes, v_mNil, v_mDat, v_mOwn, v_divmod, v_asL, v_asT, v_asB, v_asI, v_add, v_sub, v_neg, v_lt, v_le, v_gt, v_ge, v_isB, v_notB, v_isN, v_notN, v_isNi, v_isNn, bS, lineOk0, dIx_l, dIx_t, cLen_l, cLen_t, asSeq_l, asSeq_t, wipeD, setM, List.getElem?_cons_zero, List.getElem?_cons_succ, List.set_cons_zero, List.set_cons_succ, if_true, if_false, ite_true, ite_false, Bool.false_eq_true, Bool.not_true, Bool.not_false, lineOk1, tt, cl]))]
      simp only [setM, List.set_cons_succ, List.set_cons_zero]
      exact sIfN_f (by simp only [v_var, v_own, v_varOf, v_ownOf, v_c, v_1, v_2, v_nil, v_cons, v_call, v_tup, v_lst, v_toL, v_ofL, v_toB, v_ofB, v_not, v_and, v_or, v_if, v_chain, v_ixL, v_part, v_tupL, v_l2, v_yes, v_mNil, v_mDat, v_mOwn, v_divmod, v_asL, v_asT, v_asB, v_asI, v_add, v_sub, v_neg, v_lt, v_le, v_gt, v_ge, v_isB, v_notB, v_isN, v_notN, v_isNi, v_isNn, bS, lineOk0, dIx_l, dIx_t, cLen_l, cLen_t, asSeq_l, asSeq_t, wipeD, setM, List.getElem?_cons_zero, List.getElem?_cons_succ, List.set_cons_zero, List.set_cons_succ, if_true, if_false, ite_true, ite_false, Bool.false_eq_true, Bool.not_true, Bool.not_false, o1, o2, dNe_self (Sh.int (k := 0) _)]))
  exact ⟨y2, y3, (sFor_ok (ds := ps.map pat) (by simp only [v_var, v_own, v_varOf, v_ownOf, v_c, v_1, v_2, v_nil, v_cons, v_call, v_tup, v_lst, v_toL, v_ofL, v_toB, v_ofB, v_not, v_and, v_or, v_if, v_chain, v_ixL, v_part, v_tupL, v_l2, v_yes, v_mNil, v_mDat, v_mOwn, v_divmod, v_asL, v_asT, v_asB, v_asI, v_add, v_sub, v_neg, v_lt, v_le, v_gt, v_ge, v_isB, v_notB, v_isN, v_notN, v_isNi, v_isNn, bS, lineOk0, dIx_l, dIx_t, cLen_l, cLen_t, asSeq_l, asSeq_t, wipeD, setM, List.getElem?_cons_zero, List.getElem?_cons_succ, List.set_cons_zero, List.set_cons_succ, if_true, if_false, ite_true, ite_false, Bool.false_eq_true, Bool.not_true, Bool.not_false, asSeq_prog])).trans h1⟩
theorem law_true (ns : List Int) (hl : ns.length ≤ 63) : m_law [.list (ns.map PyData.int)] = some (.bool true) := by
  unfold m_law
  rw [run_eq, b_law_parts]
  show outO (sSeq _ q_law_0_1 [.dat (script ns), .bot, .bot, .bot, .bot, .bot, .bot]) = _
  obtain ⟨n, ps, hn, h, _, ep⟩ := program_ok ns hl 10 (by omega)
  have ep' : m__law_program [script ns, .int 10] = some (prog ps) := ep
  have h5 := hn.le
  rw [sSeq_nx (sSet_ok (d := prog ps) (by simp only [v_var, v_own, v_varOf, v_ownOf, v_c, v_1, v_2, v_nil, v_cons, v_call, v_tup, v_lst, v_toL, v_ofL, v_toB, v_ofB, v_not, v_and, v_or, v_if, v_chain, v_ixL, v_part, v_tupL, v_l2, v_yes, v_mNil, v_mDat, v_mOwn, v_divmod, v_asL, v_asT, v_asB, v_asI, v_add, v_sub, v_neg, v_lt, v_le, v_gt, v_ge, v_isB, v_notB, v_isN, v_notN, v_isNi, v_isNn, bS, lineOk0, dIx_l, dIx_t, cLen_l, cLen_t, asSeq_l, asSeq_t, wipeD, setM, List.getElem?_cons_zero, List.getElem?_cons_succ, List.set_cons_zero, List.set_cons_succ, if_true, if_false, ite_true, ite_false, Bool.false_eq_true, Bool.not_true, Bool.not_false, ep']))]
  simp only [setM, List.set_cons_succ, List.set_cons_zero]
  unfold q_law_0_1
  obtain ⟨y2, y3, e6⟩ := pats_loop hn h (.dat (script ns)) .bot .bot .bot .bot .bot
  rw [sSeq_nx e6]
  unfold q_law_0_2
  rw [sSeq_nx (sSet_ok (d := alw ps) (by simp only [v_var, v_own, v_varOf, v_ownOf, v_c, v_1, v_2, v_nil, v_cons, v_call, v_tup, v_lst, v_toL, v_ofL, v_toB, v_ofB, v_not, v_and, v_or, v_if, v_chain, v_ixL, v_part, v_tupL, v_l2, v_yes, v_mNil, v_mDat, v_mOwn, v_divmod, v_asL, v_asT, v_asB, v_asI, v_add, v_sub, v_neg, v_lt, v_le, v_gt, v_ge, v_isB, v_notB, v_isN, v_notN, v_isNi, v_isNn, bS, lineOk0, dIx_l, dIx_t, cLen_l, cLen_t, asSeq_l, asSeq_t, wipeD, setM, List.getElem?_cons_zero, List.getElem?_cons_succ, List.set_cons_zero, List.set_cons_succ, if_true, if_false, ite_true, ite_false, Bool.false_eq_true, Bool.not_true, Bool.not_false, asSeq_prog]; rfl))]
  simp only [setM, List.set_cons_succ, List.set_cons_zero]
  unfold q_law_0_3
  obtain ⟨L, c, eL⟩ := reached_ok hn h
  rw [sSeq_nx (sSet_ok (d := .list (L.map pat)) (by simp only [v_var, v_own, v_varOf, v_ownOf, v_c, v_1, v_2, v_nil, v_cons, v_call, v_tup, v_lst, v_toL, v_ofL, v_toB, v_ofB, v_not, v_and, v_or, v_if, v_chain, v_ixL, v_part, v_tupL, v_l2, v_yes, v_mNil, v_mDat, v_mOwn, v_divmod, v_asL, v_asT, v_asB, v_asI, v_add, v_sub, v_neg, v_lt, v_le, v_gt, v_ge, v_isB, v_notB, v_isN, v_notN, v_isNi, v_isNn, bS, lineOk0, dIx_l, dIx_t, cLen_l, cLen_t, asSeq_l, asSeq_t, wipeD, setM, List.getElem?_cons_zero, List.getElem?_cons_succ, List.set_cons_zero, List.set_cons_succ, if_true, if_false, ite_true, ite_false, Bool.false_eq_true, Bool.not_true, Bool.not_false, eL]))]
  simp only [setM, List.set_cons_succ, List.set_cons_zero]
  unfold q_law_0_4
  obtain ⟨M, cM, eM⟩ := naive_reachable_ok hn h
  have eM' : m_naive_reachable [alw ps] = some (.list ((sortK (L.map keyI)).map keyD)) := by
    rw [eM, cM.sort hn h c]; rfl
  have eR := reachable_ok hn h c
  have es : ∀ a6 : DV, eOfL (fun ρ => ((eToL (eVar 5)) ρ).bind fun ds => lSortT (.list ds)) [.dat (script ns), .dat (prog ps), y2, y3, .dat (alw ps), .dat (.list (L.map pat)), a6] = some (.list ((sortK (L.map keyI)).map keyD)) := fun a6 => by
    rw [v_ofL]
    show ((some (L.map pat)).bind fun ds => lSortT (.list ds)).bind _ = _
    rw [bS, c.sort hn h c, bS]
  have hs : Sh 2 (.list ((sortK (L.map keyI)).map keyD)) := by
    refine Sh.list fun d hd => ?_
    obtain ⟨k, hk, rfl⟩ := List.mem_map.mp hd
    refine Sh.tuple fun x hx => ?_
    obtain ⟨i, hi, rfl⟩ := List.mem_map.mp hx
    exact Sh.int i
  rw [sSeq_nx (sIfN_f (by
    rw [v_or, v_2, v_2, es, v_call, v_call, v_cons, v_var, v_nil]
    simp only [v_var, v_own, v_varOf, v_ownOf, v_c, v_1, v_2, v_nil, v_cons, v_call, v_tup, v_lst, v_toL, v_ofL, v_toB, v_ofB, v_not, v_and, v_or, v_if, v_chain, v_ixL, v_part, v_tupL, v_l2, v_yes, v_mNil, v_mDat, v_mOwn, v_divmod, v_asL, v_asT, v_asB, v_asI, v_add, v_sub, v_neg, v_lt, v_le, v_gt, v_ge, v_isB, v_notB, v_isN, v_notN, v_isNi, v_isNn, bS, lineOk0, dIx_l, dIx_t, cLen_l, cLen_t, asSeq_l, asSeq_t, wipeD, setM, List.getElem?_cons_zero, List.getElem?_cons_succ, List.set_cons_zero, List.set_cons_succ, if_true, if_false, ite_true, ite_false, Bool.false_eq_true, Bool.not_true, Bool.not_false, eM', eR, dNe_self hs]))]
  unfold q_law_0_5
  obtain ⟨q, hq, eq'⟩ := drawn_ok ns hl 1 7 (by omega) (by omega)
  have eq : m__law_drawn [script ns, .int 1, .int 7] = some (.int (q : Int)) := eq'
  have hbad : ∃ w, ([PyData.none, .tuple [], .list [], prog ps, .list [pat [0, 1, 1]], .list [pat [0, 1, 2], pat [0, 1, 2, 3]], .list (List.replicate 5 (pat [0, 1, 2]))] : List D)[q]? = some w ∧ x_check_allowed [w] = .err "InvalidAllowed" := by
    match q, hq with
    | 0, _ => exact ⟨_, rfl, x_badA (by simp [badAL])⟩
    | 1, _ => exact ⟨_, rfl, x_badA (by simp [badAL])⟩
    | 2, _ => exact ⟨_, rfl, x_badA (by simp [badAL])⟩
    | 3, _ => exact ⟨_, rfl, x_alw_prog ps⟩
    | 4, _ => exact ⟨_, rfl, x_badA (by simp [badAL])⟩
    | 5, _ => exact ⟨_, rfl, x_badA (by simp [badAL])⟩
    | 6, _ => exact ⟨_, rfl, x_badA (by simp [badAL])⟩
  obtain ⟨w, hw1, hw2⟩ := hbad
  rw [sSeq_nx (sSet_ok (d := w) (eIxL_ok (xs := [PyData.none, .tuple [], .list [], prog ps, .list [pat [0, 1, 1]], .list [pat [0, 1, 2], pat [0, 1, 2, 3]], .list (List.replicate 5 (pat [0, 1, 2]))]) (i := q) (by kernel_rfl) (by simp only [v_var, v_own, v_varOf, v_ownOf, v_c, v_1, v_2, v_nil, v_cons, v_call, v_tup, v_lst, v_toL, v_ofL, v_toB, v_ofB, v_not, v_and, v_or, v_if, v_chain, v_ixL, v_part, v_tupL, v_l2, v_yes, v_mNil, v_mDat, v_mOwn, v_divmod, v_asL, v_asT, v_asB, v_asI, v_add, v_sub, v_neg, v_lt, v_le, v_gt, v_ge, v_isB, v_notB, v_isN, v_notN, v_isNi, v_isNn, bS, lineOk0, dIx_l, dIx_t, cLen_l, cLen_t, asSeq_l, asSeq_t, wipeD, setM, List.getElem?_cons_zero, List.getElem?_cons_succ, List.set_cons_zero, List.set_cons_succ, if_true, if_false, ite_true, ite_false, Bool.false_eq_true, Bool.not_true, Bool.not_false, eq]) hw1))]
  simp only [setM, List.set_cons_succ, List.set_cons_zero]
  obtain ⟨bad, hb, eb'⟩ := badpattern_ok ns hl 2 (by omega)
  have eb : m__law_badpattern [script ns, .int 2] = some bad := eb'
  have t0 : m__law_error [.int 0, bad] = some (.int 0) := told_ok (way := 0) (.inl ⟨rfl, x_no_err (x_badP hb)⟩)
  have t1 : m__law_error [.int 1, w] = some (.int 1) := told_ok (way := 1) (.inr ⟨rfl, x_nr_err hw2⟩)
  have l2' : ∀ a b : D, lineOk [a, b] = some [a, b] := fun a b => lineOk_ok (show 2 ≤ 16777216 by omega)
  rw [sRet_ok (d := .bool true) (by
    simp only [v_var, v_own, v_varOf, v_ownOf, v_c, v_1, v_2, v_nil, v_cons, v_call, v_tup, v_lst, v_toL, v_ofL, v_toB, v_ofB, v_not, v_and, v_or, v_if, v_chain, v_ixL, v_part, v_tupL, v_l2, v_yes, v_mNil, v_mDat, v_mOwn, v_divmod, v_asL, v_asT, v_asB, v_asI, v_add, v_sub, v_neg, v_lt, v_le, v_gt, v_ge, v_isB, v_notB, v_isN, v_notN, v_isNi, v_isNn, bS, lineOk0, dIx_l, dIx_t, cLen_l, cLen_t, asSeq_l, asSeq_t, wipeD, setM, List.getElem?_cons_zero, List.getElem?_cons_succ, List.set_cons_zero, List.set_cons_succ, if_true, if_false, ite_true, ite_false, Bool.false_eq_true, Bool.not_true, Bool.not_false, eb, t0, t1, l2']
    kernel_rfl)]
  rfl
end DL

/-! ## the defs keep to their mirrors -/
namespace DL
open PySem PySem.Spec L2
def top (i : Nat) : Stmt := PySem.Challenge.pw_tyreplaces_k70_whole_naive.main.body.getD i (.Pass ⟨0, 0, 0, 0⟩)
abbrev s_is_int : Stmt := top 8
theorem sc_is_int : FnScope ["value", "least", "most"] ["value", "least", "most"] (defScope s_is_int) := ⟨rfl, rfl, rfl, by decide +kernel, rfl, by decide +kernel, by decide +kernel⟩
abbrev s_is_pattern : Stmt := top 9
theorem sc_is_pattern : FnScope ["candidate", "place"] ["candidate"] (defScope s_is_pattern) := ⟨rfl, rfl, rfl, by decide +kernel, rfl, by decide +kernel, by decide +kernel⟩
abbrev s_are_patterns : Stmt := top 10
theorem sc_are_patterns : FnScope ["some", "one"] ["some"] (defScope s_are_patterns) := ⟨rfl, rfl, rfl, by decide +kernel, rfl, by decide +kernel, by decide +kernel⟩
abbrev s_check_pattern : Stmt := top 11
theorem sc_check_pattern : FnScope ["value"] ["value"] (defScope s_check_pattern) := ⟨rfl, rfl, rfl, by decide +kernel, rfl, by decide +kernel, by decide +kernel⟩
abbrev s_find_combined : Stmt := top 12
theorem sc_find_combined : FnScope ["one", "other", "place"] ["one", "other"] (defScope s_find_combined) := ⟨rfl, rfl, rfl, by decide +kernel, rfl, by decide +kernel, by decide +kernel⟩
abbrev s_find_reversed : Stmt := top 13
theorem sc_find_reversed : FnScope ["pattern", "place"] ["pattern"] (defScope s_find_reversed) := ⟨rfl, rfl, rfl, by decide +kernel, rfl, by decide +kernel, by decide +kernel⟩
abbrev s_first_pattern : Stmt := top 14
theorem sc_first_pattern : FnScope ["many"] ["many"] (defScope s_first_pattern) := ⟨rfl, rfl, rfl, by decide +kernel, rfl, by decide +kernel, by decide +kernel⟩
abbrev s_find_order : Stmt := top 15
theorem sc_find_order : FnScope ["pattern", "here", "many"] ["pattern"] (defScope s_find_order) := ⟨rfl, rfl, rfl, by decide +kernel, rfl, by decide +kernel, by decide +kernel⟩
abbrev s_order : Stmt := top 16
theorem sc_order : FnScope ["pattern"] ["pattern"] (defScope s_order) := ⟨rfl, rfl, rfl, by decide +kernel, rfl, by decide +kernel, by decide +kernel⟩
abbrev s_check_allowed : Stmt := top 18
theorem sc_check_allowed : FnScope ["value"] ["value"] (defScope s_check_allowed) := ⟨rfl, rfl, rfl, by decide +kernel, rfl, by decide +kernel, by decide +kernel⟩
abbrev s_find_rows : Stmt := top 19
theorem sc_find_rows : FnScope ["allowed", "start", "found", "level", "later", "places", "index", "pattern", "other"] ["allowed"] (defScope s_find_rows) := ⟨rfl, rfl, rfl, by decide +kernel, rfl, by decide +kernel, by decide +kernel⟩
abbrev s_reachable : Stmt := top 20
theorem sc_reachable : FnScope ["allowed", "tyres", "row"] ["allowed"] (defScope s_reachable) := ⟨rfl, rfl, rfl, by decide +kernel, rfl, by decide +kernel, by decide +kernel⟩
abbrev s_exchange : Stmt := top 22
theorem sc_exchange : FnScope ["tyres", "pattern", "later", "place", "other"] ["tyres", "pattern"] (defScope s_exchange) := ⟨rfl, rfl, rfl, by decide +kernel, rfl, by decide +kernel, by decide +kernel⟩
abbrev s_naive_order : Stmt := top 23
theorem sc_naive_order : FnScope ["pattern", "first", "here", "many"] ["pattern"] (defScope s_naive_order) := ⟨rfl, rfl, rfl, by decide +kernel, rfl, by decide +kernel, by decide +kernel⟩
abbrev s_naive_reachable : Stmt := top 24
theorem sc_naive_reachable : FnScope ["allowed", "found", "before", "known", "tyres", "pattern", "other"] ["allowed"] (defScope s_naive_reachable) := ⟨rfl, rfl, rfl, by decide +kernel, rfl, by decide +kernel, by decide +kernel⟩
abbrev s__law_drawn : Stmt := top 26
theorem sc__law_drawn : FnScope ["_law_script", "_law_k", "_law_many", "_law_cell", "_law_turn_here", "_law_rest"] ["_law_script", "_law_k", "_law_many"] (defScope s__law_drawn) := ⟨rfl, rfl, rfl, by decide +kernel, rfl, by decide +kernel, by decide +kernel⟩
abbrev s__law_pattern : Stmt := top 27
theorem sc__law_pattern : FnScope ["_law_script", "_law_at", "_law_size", "_law_left", "_law_found", "_law_k"] ["_law_script", "_law_at", "_law_size"] (defScope s__law_pattern) := ⟨rfl, rfl, rfl, by decide +kernel, rfl, by decide +kernel, by decide +kernel⟩
abbrev s__law_program : Stmt := top 28
theorem sc__law_program : FnScope ["_law_script", "_law_at", "_law_size", "_law_k"] ["_law_script", "_law_at"] (defScope s__law_program) := ⟨rfl, rfl, rfl, by decide +kernel, rfl, by decide +kernel, by decide +kernel⟩
abbrev s__law_moved : Stmt := top 29
theorem sc__law_moved : FnScope ["_law_tyres", "_law_pattern_here", "_law_place"] ["_law_tyres", "_law_pattern_here"] (defScope s__law_moved) := ⟨rfl, rfl, rfl, by decide +kernel, rfl, by decide +kernel, by decide +kernel⟩
abbrev s__law_turn : Stmt := top 30
theorem sc__law_turn : FnScope ["_law_program_here", "_law_start", "_law_found", "_law_here"] ["_law_program_here"] (defScope s__law_turn) := ⟨rfl, rfl, rfl, by decide +kernel, rfl, by decide +kernel, by decide +kernel⟩
abbrev s__law_badpattern : Stmt := top 31
theorem sc__law_badpattern : FnScope ["_law_script", "_law_at", "_law_bad"] ["_law_script", "_law_at"] (defScope s__law_badpattern) := ⟨rfl, rfl, rfl, by decide +kernel, rfl, by decide +kernel, by decide +kernel⟩
abbrev s__law_error : Stmt := top 32
theorem sc__law_error : FnScope ["_law_way", "_law_one", "e"] ["_law_way", "_law_one"] (defScope s__law_error) := ⟨rfl, rfl, rfl, by decide +kernel, rfl, by decide +kernel, by decide +kernel⟩
abbrev s__law_reached : Stmt := top 33
theorem sc__law_reached : FnScope ["_law_allowed", "_law_found", "_law_last", "_law_later", "_law_tyres", "_law_pattern_here", "_law_other"] ["_law_allowed"] (defScope s__law_reached) := ⟨rfl, rfl, rfl, by decide +kernel, rfl, by decide +kernel, by decide +kernel⟩
abbrev s_law : Stmt := top 34
theorem sc_law : FnScope ["_law_script", "_law_program_here", "_law_pattern_here", "_law_many", "_law_allowed", "_law_found", "_law_bad"] ["_law_script"] (defScope s_law) := ⟨rfl, rfl, rfl, by decide +kernel, rfl, by decide +kernel, by decide +kernel⟩
structure Txt (K : PySem.W.Frag) (mg : Str → Option Value) : Prop where
  g_TyreError : mg "TyreError" = some (.ref (He.ga K "TyreError"))
  g_InvalidPattern : mg "InvalidPattern" = some (.ref (He.ga K "InvalidPattern"))
  g_InvalidAllowed : mg "InvalidAllowed" = some (.ref (He.ga K "InvalidAllowed"))
  x_InvalidPattern : ExcK K "InvalidPattern"
  x_InvalidAllowed : ExcK K "InvalidAllowed"
  xs : ExB K ["InvalidPattern", "InvalidAllowed"] ["InvalidPattern", "InvalidAllowed"] "TyreError"
  g_is_int : mg "is_int" = some (.ref (He.ga K "is_int"))
  g_is_pattern : mg "is_pattern" = some (.ref (He.ga K "is_pattern"))
  g_are_patterns : mg "are_patterns" = some (.ref (He.ga K "are_patterns"))
  g_check_pattern : mg "check_pattern" = some (.ref (He.ga K "check_pattern"))
  g_find_combined : mg "find_combined" = some (.ref (He.ga K "find_combined"))
  g_find_reversed : mg "find_reversed" = some (.ref (He.ga K "find_reversed"))
  g_first_pattern : mg "first_pattern" = some (.ref (He.ga K "first_pattern"))
  g_find_order : mg "find_order" = some (.ref (He.ga K "find_order"))
  g_order : mg "order" = some (.ref (He.ga K "order"))
  g_check_allowed : mg "check_allowed" = some (.ref (He.ga K "check_allowed"))
  g_find_rows : mg "find_rows" = some (.ref (He.ga K "find_rows"))
  g_reachable : mg "reachable" = some (.ref (He.ga K "reachable"))
  g_exchange : mg "exchange" = some (.ref (He.ga K "exchange"))
  g_naive_order : mg "naive_order" = some (.ref (He.ga K "naive_order"))
  g_naive_reachable : mg "naive_reachable" = some (.ref (He.ga K "naive_reachable"))
  g__law_drawn : mg "_law_drawn" = some (.ref (He.ga K "_law_drawn"))
  g__law_pattern : mg "_law_pattern" = some (.ref (He.ga K "_law_pattern"))
  g__law_program : mg "_law_program" = some (.ref (He.ga K "_law_program"))
  g__law_moved : mg "_law_moved" = some (.ref (He.ga K "_law_moved"))
  g__law_turn : mg "_law_turn" = some (.ref (He.ga K "_law_turn"))
  g__law_badpattern : mg "_law_badpattern" = some (.ref (He.ga K "_law_badpattern"))
  g__law_error : mg "_law_error" = some (.ref (He.ga K "_law_error"))
  g__law_reached : mg "_law_reached" = some (.ref (He.ga K "_law_reached"))
  g_law : mg "law" = some (.ref (He.ga K "law"))
  c_MIN_PLACES : ∃ t, mg "MIN_PLACES" = some (.int 3 t)
  c_MAX_PLACES : ∃ t, mg "MAX_PLACES" = some (.int 5 t)
  c_MAX_PATTERNS : ∃ t, mg "MAX_PATTERNS" = some (.int 4 t)
  n_all : mg "all" = none
  n_bool : mg "bool" = none
  n_enumerate : mg "enumerate" = none
  n_int : mg "int" = none
  n_isinstance : mg "isinstance" = none
  n_len : mg "len" = none
  n_list : mg "list" = none
  n_range : mg "range" = none
  n_set : mg "set" = none
  n_sorted : mg "sorted" = none
  n_tuple : mg "tuple" = none
section
variable {P : Program} {w : World} {K : PySem.W.Frag} {mg : Str → Option Value} {base : Heap}
theorem ok_is_int {fd : FuncData} (T : Txt K mg) (F : FnP K "is_int" s_is_int (He.ga K "is_int") fd)  : Known P w K mg base 1 "is_int" m_is_int 3 :=
  known_mk (g := b_is_int) F T.g_is_int sc_is_int (by decide) rfl (fun _ _ _ _ _ _ us hl => match us, hl with | [_, _, _], _ => rfl) (fun cdv A outer s H E hr => ⟨_, (pss_oneD (psd_ret (PO'.d (po_and (po_isi (T := "int") (by decide +kernel) (by rfl) T.n_isinstance (by rfl) T.n_int (by decide +kernel) (PD.b (pd_var 0))) (po_and (po_not (po_isi (T := "bool") (by decide +kernel) (by rfl) T.n_isinstance (by rfl) T.n_bool (by decide +kernel) (PD.b (pd_var 0)))) (po_one (po_lele (PD.b (pd_var 1)) (PD.b (pd_var 0)) (PD.b (pd_var 2)))))))))⟩) (fun _ => rfl)
theorem ok_is_pattern {fd : FuncData} (T : Txt K mg) (F : FnP K "is_pattern" s_is_pattern (He.ga K "is_pattern") fd) (G_is_int : Known P w K mg base 1 "is_int" m_is_int 3) : Known P w K mg base 2 "is_pattern" m_is_pattern 1 :=
  known_mk (g := b_is_pattern) F T.g_is_pattern sc_is_pattern (by decide) rfl (fun _ _ _ _ _ _ us hl => match us, hl with | [_], _ => rfl) (fun cdv A outer s H E hr => ⟨_, (pss_consD (psd_if (PWd.tt (pw_orD (pt_notD (PO'.tt (po_isi (T := "tuple") (by decide +kernel) (by rfl) T.n_isinstance (by rfl) T.n_tuple (by decide +kernel) (PD.b (pd_var 0))))) (pw_or1D (pt_notD (pt_lele (PD.b (pd_globI (by rfl) T.c_MIN_PLACES.choose_spec)) (PD.b (pd_len T.n_len (PD.b (pd_var 0)))) (PD.b (pd_globI (by rfl) T.c_MAX_PLACES.choose_spec)))))))
  (pss_oneD (psd_ret pd_bl))
  pss_nilD)
  (pss_consD (psd_if (pt_notD (PO'.tt (PB.o (PD.b (pd_all rfl T.n_all (PL.b (PN.l (pn_lc (own := [("place", 1)]) rfl sc_is_pattern.nd ((pid_seq (pd_var 0)).l) (blkOk_by (by kernel_rfl)) (fun _ _ _ _ _ => (pgd_name (i := 1) sc_is_pattern.nd)) (fun _ _ _ _ _ => ptsd_nil) (fun _ _ _ _ _ => (pd_fn G_is_int (hr.mono (by decide)) (pad_cons (pd_var 1) (pad_cons pd_int (pad_cons (pd_sub (pd_len T.n_len (PD.b (pd_var 0))) pd_int) pad_nil))) (eCons_len (eCons_len (eCons_len eNil_len)))))))))))))
  (pss_oneD (psd_ret pd_bl))
  pss_nilD)
  (pss_oneD (psd_ret (PO'.d (po_eq (u64 hr) (PD.b (pd_lenSet rfl (by rfl) T.n_len (by rfl) T.n_set (PD.b (pd_var 0)))) (PD.b (pd_len T.n_len (PD.b (pd_var 0))))))))))⟩) (fun _ => rfl)
theorem ok_are_patterns {fd : FuncData} (T : Txt K mg) (F : FnP K "are_patterns" s_are_patterns (He.ga K "are_patterns") fd) (G_is_pattern : Known P w K mg base 2 "is_pattern" m_is_pattern 1) : Known P w K mg base 3 "are_patterns" m_are_patterns 1 :=
  known_mk (g := b_are_patterns) F T.g_are_patterns sc_are_patterns (by decide) rfl (fun _ _ _ _ _ _ us hl => match us, hl with | [_], _ => rfl) (fun cdv A outer s H E hr => ⟨_, (pss_consD (psd_if (PWd.tt (pw_orD (pt_notD (pt_lele (PD.b pd_int) (PD.b (pd_len T.n_len (PD.b (pd_var 0)))) (PD.b (pd_globI (by rfl) T.c_MAX_PATTERNS.choose_spec)))) (pw_or1D (pt_notD (PO'.tt (PB.o (PD.b (pd_all rfl T.n_all (PL.b (PN.l (pn_lc (own := [("one", 1)]) rfl sc_are_patterns.nd ((pid_seq (pd_var 0)).l) (blkOk_by (by kernel_rfl)) (fun _ _ _ _ _ => (pgd_name (i := 1) sc_are_patterns.nd)) (fun _ _ _ _ _ => ptsd_nil) (fun _ _ _ _ _ => (pd_fn G_is_pattern (hr.mono (by decide)) (pad_cons (pd_var 1) pad_nil) (eCons_len eNil_len))))))))))))))
  (pss_oneD (psd_ret pd_bl))
  pss_nilD)
  (pss_oneD (psd_ret (PO'.d (po_eq (u64 hr) (PD.b (pd_lenSet rfl (by rfl) T.n_len (by rfl) T.n_set (PL.b (PN.l (pn_lc (own := [("one", 1)]) rfl sc_are_patterns.nd ((pid_seq (pd_var 0)).l) (blkOk_by (by kernel_rfl)) (fun _ _ _ _ _ => (pgd_name (i := 1) sc_are_patterns.nd)) (fun _ _ _ _ _ => ptsd_nil) (fun _ _ _ _ _ => (pd_len T.n_len (PD.b (pd_var 1))))))))) (PD.b pd_int))))))⟩) (fun _ => rfl)
theorem ok_check_pattern {fd : FuncData} (T : Txt K mg) (F : FnP K "check_pattern" s_check_pattern (He.ga K "check_pattern") fd) (G_is_pattern : Known P w K mg base 2 "is_pattern" m_is_pattern 1) : Known P w K mg base 3 "check_pattern" m_check_pattern 1 :=
  known_mk (g := b_check_pattern) F T.g_check_pattern sc_check_pattern (by decide) rfl (fun _ _ _ _ _ _ us hl => match us, hl with | [_], _ => rfl) (fun cdv A outer s H E hr => ⟨_, (pss_oneD (psd_if (pt_notD (PO'.tt (PB.o (PD.b (pd_fn G_is_pattern (hr.mono (by decide)) (pad_cons (pd_var 0) pad_nil) (eCons_len eNil_len))))))
  (pss_oneD psd_never)
  pss_nilD))⟩) (fun _ => rfl)
theorem okx_check_pattern {fd : FuncData} (T : Txt K mg) (F : FnP K "check_pattern" s_check_pattern (He.ga K "check_pattern") fd) (G_is_pattern : Known P w K mg base 2 "is_pattern" m_is_pattern 1) : KnownX P w K mg base 3 "check_pattern" x_check_pattern 1 :=
  known_mkX (g := bx_check_pattern) F T.g_check_pattern sc_check_pattern (by decide) rfl (fun _ _ _ _ _ _ us hl => match us, hl with | [_], _ => rfl) (fun cdv A outer s H E hr => ⟨_, (pss_oneD (psd_if (pt_notD (PO'.tt (PB.o (PD.b (pd_fn G_is_pattern (hr.mono (by decide)) (pad_cons (pd_var 0) pad_nil) (eCons_len eNil_len))))))
  (pss_oneD (psd_raise rfl tkX T.x_InvalidPattern T.g_InvalidPattern))
  pss_nilD))⟩) (fun _ => rfl)
theorem ok_find_combined {fd : FuncData} (T : Txt K mg) (F : FnP K "find_combined" s_find_combined (He.ga K "find_combined") fd)  : Known P w K mg base 1 "find_combined" m_find_combined 2 :=
  known_mk (g := b_find_combined) F T.g_find_combined sc_find_combined (by decide) rfl (fun _ _ _ _ _ _ us hl => match us, hl with | [_, _], _ => rfl) (fun cdv A outer s H E hr => ⟨_, (pss_oneD (psd_ret (pd_tupleL (by rfl) T.n_tuple (PN.l (pn_lc (own := [("place", 2)]) rfl sc_find_combined.nd ((pid_seq (pd_var 0)).l) (blkOk_by (by kernel_rfl)) (fun _ _ _ _ _ => (pgd_name (i := 2) sc_find_combined.nd)) (fun _ _ _ _ _ => ptsd_nil) (fun _ _ _ _ _ => (pd_ix (pd_var 1) (pd_var 2))))))))⟩) (fun _ => rfl)
theorem ok_find_reversed {fd : FuncData} (T : Txt K mg) (F : FnP K "find_reversed" s_find_reversed (He.ga K "find_reversed") fd)  : Known P w K mg base 1 "find_reversed" m_find_reversed 1 :=
  known_mk (g := b_find_reversed) F T.g_find_reversed sc_find_reversed (by decide) rfl (fun _ _ _ _ _ _ us hl => match us, hl with | [_], _ => rfl) (fun cdv A outer s H E hr => ⟨_, (pss_oneD (psd_ret (pd_tupleL (by rfl) T.n_tuple (PN.l (pn_lc (own := [("place", 1)]) rfl sc_find_reversed.nd ((pid_range1 (by rfl) T.n_range (pd_len T.n_len (PD.b (pd_var 0)))).l) (blkOk_by (by kernel_rfl)) (fun _ _ _ _ _ => (pgd_name (i := 1) sc_find_reversed.nd)) (fun _ _ _ _ _ => ptsd_nil) (fun _ _ _ _ _ => (pd_index (PD.b (pd_var 0)) (PD.b (pd_var 1)))))))))⟩) (fun _ => rfl)
theorem ok_first_pattern {fd : FuncData} (T : Txt K mg) (F : FnP K "first_pattern" s_first_pattern (He.ga K "first_pattern") fd)  : Known P w K mg base 1 "first_pattern" m_first_pattern 1 :=
  known_mk (g := b_first_pattern) F T.g_first_pattern sc_first_pattern (by decide) rfl (fun _ _ _ _ _ _ us hl => match us, hl with | [_], _ => rfl) (fun cdv A outer s H E hr => ⟨_, (pss_oneD (psd_ret (pd_tupR rfl (by rfl) T.n_tuple (by rfl) T.n_range (pd_var 0))))⟩) (fun _ => rfl)
theorem ok_find_order {fd : FuncData} (T : Txt K mg) (F : FnP K "find_order" s_find_order (He.ga K "find_order") fd) (G_first_pattern : Known P w K mg base 1 "first_pattern" m_first_pattern 1) (G_find_combined : Known P w K mg base 1 "find_combined" m_find_combined 2) : Known P w K mg base 2 "find_order" m_find_order 1 :=
  known_mk (g := b_find_order) F T.g_find_order sc_find_order (by decide) rfl (fun _ _ _ _ _ _ us hl => match us, hl with | [_], _ => rfl) (fun cdv A outer s H E hr => ⟨_, (pss_consD (psd_par rfl sc_find_order.nd (pam_dat (pd_var 0) (pam_dat pd_int pam_nil)) (mDat_len (mDat_len mNil_len)))
  (pss_consD (psd_while FUEL PassesOwn.never (pt_ne (u64 hr) (PD.b (pd_var 1)) (PD.b (pd_fn G_first_pattern (hr.mono (by decide)) (pad_cons (pd_len T.n_len (PD.b (pd_var 0))) pad_nil) (eCons_len eNil_len))))
  (pss_oneD (psd_par rfl sc_find_order.nd (pam_dat (pd_fn G_find_combined (hr.mono (by decide)) (pad_cons (pd_var 1) (pad_cons (pd_var 0) pad_nil)) (eCons_len (eCons_len eNil_len))) (pam_dat (pd_add (pd_var 2) pd_int) pam_nil)) (mDat_len (mDat_len mNil_len)))))
  (pss_oneD (psd_ret (pd_var 2)))))⟩) (fun _ => rfl)
theorem ok_order {fd : FuncData} (T : Txt K mg) (F : FnP K "order" s_order (He.ga K "order") fd) (G_check_pattern : Known P w K mg base 3 "check_pattern" m_check_pattern 1) (G_find_order : Known P w K mg base 2 "find_order" m_find_order 1) : Known P w K mg base 4 "order" m_order 1 :=
  known_mk (g := b_order) F T.g_order sc_order (by decide) rfl (fun _ _ _ _ _ _ us hl => match us, hl with | [_], _ => rfl) (fun cdv A outer s H E hr => ⟨_, (pss_consD (psd_expr (pd_fn G_check_pattern (hr.mono (by decide)) (pad_cons (pd_var 0) pad_nil) (eCons_len eNil_len)))
  (pss_oneD (psd_ret (pd_fn G_find_order (hr.mono (by decide)) (pad_cons (pd_var 0) pad_nil) (eCons_len eNil_len)))))⟩) (fun _ => rfl)
theorem okx_order {fd : FuncData} (T : Txt K mg) (F : FnP K "order" s_order (He.ga K "order") fd) (G_find_order : Known P w K mg base 2 "find_order" m_find_order 1) (GX_check_pattern : KnownX P w K mg base 3 "check_pattern" x_check_pattern 1) : KnownX P w K mg base 4 "order" x_order 1 :=
  known_mkX (g := bx_order) F T.g_order sc_order (by decide) rfl (fun _ _ _ _ _ _ us hl => match us, hl with | [_], _ => rfl) (fun cdv A outer s H E hr => ⟨_, (pss_consD (psd_exprX (px_fn GX_check_pattern (hr.mono (by decide)) tkX (pad_cons (pd_var 0) pad_nil) (eCons_len eNil_len)))
  (pss_oneD (psd_ret (pd_fn G_find_order (hr.mono (by decide)) (pad_cons (pd_var 0) pad_nil) (eCons_len eNil_len)))))⟩) (fun _ => rfl)
theorem ok_check_allowed {fd : FuncData} (T : Txt K mg) (F : FnP K "check_allowed" s_check_allowed (He.ga K "check_allowed") fd) (G_are_patterns : Known P w K mg base 3 "are_patterns" m_are_patterns 1) : Known P w K mg base 4 "check_allowed" m_check_allowed 1 :=
  known_mk (g := b_check_allowed) F T.g_check_allowed sc_check_allowed (by decide) rfl (fun _ _ _ _ _ _ us hl => match us, hl with | [_], _ => rfl) (fun cdv A outer s H E hr => ⟨_, (pss_oneD (psd_if (PWd.tt (pw_orD (pt_notD (PO'.tt (po_isi (T := "list") (by decide +kernel) (by rfl) T.n_isinstance (by rfl) T.n_list (by decide +kernel) (PD.b (pd_var 0))))) (pw_or1D (pt_notD (PO'.tt (PB.o (PD.b (pd_fn G_are_patterns (hr.mono (by decide)) (pad_cons (pd_var 0) pad_nil) (eCons_len eNil_len)))))))))
  (pss_oneD psd_never)
  pss_nilD))⟩) (fun _ => rfl)
theorem okx_check_allowed {fd : FuncData} (T : Txt K mg) (F : FnP K "check_allowed" s_check_allowed (He.ga K "check_allowed") fd) (G_are_patterns : Known P w K mg base 3 "are_patterns" m_are_patterns 1) : KnownX P w K mg base 4 "check_allowed" x_check_allowed 1 :=
  known_mkX (g := bx_check_allowed) F T.g_check_allowed sc_check_allowed (by decide) rfl (fun _ _ _ _ _ _ us hl => match us, hl with | [_], _ => rfl) (fun cdv A outer s H E hr => ⟨_, (pss_oneD (psd_if (PWd.tt (pw_orD (pt_notD (PO'.tt (po_isi (T := "list") (by decide +kernel) (by rfl) T.n_isinstance (by rfl) T.n_list (by decide +kernel) (PD.b (pd_var 0))))) (pw_or1D (pt_notD (PO'.tt (PB.o (PD.b (pd_fn G_are_patterns (hr.mono (by decide)) (pad_cons (pd_var 0) pad_nil) (eCons_len eNil_len)))))))))
  (pss_oneD (psd_raise rfl tkX T.x_InvalidAllowed T.g_InvalidAllowed))
  pss_nilD))⟩) (fun _ => rfl)
theorem ok_find_rows {fd : FuncData} (T : Txt K mg) (F : FnP K "find_rows" s_find_rows (He.ga K "find_rows") fd) (G_first_pattern : Known P w K mg base 1 "first_pattern" m_first_pattern 1) (G_find_combined : Known P w K mg base 1 "find_combined" m_find_combined 2) (G_find_reversed : Known P w K mg base 1 "find_reversed" m_find_reversed 1) : Known P w K mg base 2 "find_rows" m_find_rows 1 :=
  known_mk (g := b_find_rows) F T.g_find_rows sc_find_rows (by decide) rfl (fun _ _ _ _ _ _ us hl => match us, hl with | [_], _ => rfl) (fun cdv A outer s H E hr => ⟨_, (pss_consD (psd_set (i := 1) sc_find_rows.nd (pd_fn G_first_pattern (hr.mono (by decide)) (pad_cons (pd_len T.n_len (PD.b (pd_ix (pd_var 0) pd_int))) pad_nil) (eCons_len eNil_len)))
  (pss_consD (psd_parT (is := [2, 3]) rfl (pam_dct (u1 hr) (pd_var 1) ((pn_lst pad_nil)).d (pam_dat ((pn_lst (pad_cons (pd_var 1) pad_nil))).d pam_nil)) (pgs_cons (pg_name (i := 2) sc_find_rows.nd rfl (by first | exact Or.inl rfl | exact Or.inr rfl)) (pgs_cons (pg_name (i := 3) sc_find_rows.nd rfl (by first | exact Or.inl rfl | exact Or.inr rfl)) pgs_nil)) (mDct_len (mDat_len mNil_len)))
  (pss_consD (psd_while FUEL PassesOwn.never (pt_ne (u64 hr) (PD.b (pd_var 3)) (PL.b (PN.l (pn_lst pad_nil))))
  (pss_consD (psd_own (i := 4) sc_find_rows.nd (pn_lst pad_nil))
  (pss_consD (psd_for PassesOwn.never rfl ((pid_seq (pd_var 3))) (pgd_name (i := 5) sc_find_rows.nd)
  (pss_oneD (psd_for PassesOwn.never rfl ((pid_enum (by rfl) T.n_enumerate (pd_var 0))) (pgd_tupW rfl (pgsd_cons (pgd_name (i := 6) sc_find_rows.nd) (pgsd_cons (pgd_name (i := 7) sc_find_rows.nd) pgsd_nil)) hs2_len)
  (pss_consD (psd_set (i := 8) sc_find_rows.nd (pd_fn G_find_combined (hr.mono (by decide)) (pad_cons (pd_var 5) (pad_cons (pd_var 7) pad_nil)) (eCons_len (eCons_len eNil_len))))
  (pss_oneD (psd_if (pt_dnotin 2 (u1 hr) (pd_var 8))
  (pss_consD (psd_dput 2 (u1 hr) ((pn_cat (PD.l (pd_dget 2 (u1 hr) (pd_var 5))) (PN.l (pn_lst (pad_cons (pd_var 6) pad_nil))))).d (pd_var 8))
  (pss_oneD (psd_app 4 (pd_var 8))))
  pss_nilD))))))
  (pss_oneD (psd_fz 4 (psd_set (i := 3) sc_find_rows.nd (pd_var 4)))))))
  (pss_oneD (psd_ret ((pn_lc (own := [("places", 5)]) rfl sc_find_rows.nd (pil_dict 2) (blkOk_by (by kernel_rfl)) (fun _ _ _ _ _ => (pgd_name (i := 5) sc_find_rows.nd)) (fun _ _ _ _ _ => ptsd_nil) (fun _ _ _ _ _ => (pd_tup (pad_cons (pd_fn G_find_reversed (hr.mono (by decide)) (pad_cons (pd_var 5) pad_nil) (eCons_len eNil_len)) (pad_cons (pd_dget 2 (u1 hr) (pd_var 5)) pad_nil)))))).d)))))⟩) (fun _ => rfl)
theorem ok_reachable {fd : FuncData} (T : Txt K mg) (F : FnP K "reachable" s_reachable (He.ga K "reachable") fd) (G_check_allowed : Known P w K mg base 4 "check_allowed" m_check_allowed 1) (G_find_rows : Known P w K mg base 2 "find_rows" m_find_rows 1) : Known P w K mg base 5 "reachable" m_reachable 1 :=
  known_mk (g := b_reachable) F T.g_reachable sc_reachable (by decide) rfl (fun _ _ _ _ _ _ us hl => match us, hl with | [_], _ => rfl) (fun cdv A outer s H E hr => ⟨_, (pss_consD (psd_expr (pd_fn G_check_allowed (hr.mono (by decide)) (pad_cons (pd_var 0) pad_nil) (eCons_len eNil_len)))
  (pss_oneD (psd_ret ((pn_sortedT (by rfl) T.n_sorted (PN.l (pn_lc (own := [("tyres", 1), ("row", 2)]) rfl sc_reachable.nd ((pid_seq (pd_fn G_find_rows (hr.mono (by decide)) (pad_cons (pd_var 0) pad_nil) (eCons_len eNil_len))).l) (blkOk_by (by kernel_rfl)) (fun _ _ _ _ _ => (pgd_tup rfl (pgsd_cons (pgd_name (i := 1) sc_reachable.nd) (pgsd_cons (pgd_name (i := 2) sc_reachable.nd) pgsd_nil)) hs2_len)) (fun _ _ _ _ _ => ptsd_nil) (fun _ _ _ _ _ => (pd_var 1)))))).d)))⟩) (fun _ => rfl)
theorem okx_reachable {fd : FuncData} (T : Txt K mg) (F : FnP K "reachable" s_reachable (He.ga K "reachable") fd) (G_find_rows : Known P w K mg base 2 "find_rows" m_find_rows 1) (GX_check_allowed : KnownX P w K mg base 4 "check_allowed" x_check_allowed 1) : KnownX P w K mg base 5 "reachable" x_reachable 1 :=
  known_mkX (g := bx_reachable) F T.g_reachable sc_reachable (by decide) rfl (fun _ _ _ _ _ _ us hl => match us, hl with | [_], _ => rfl) (fun cdv A outer s H E hr => ⟨_, (pss_consD (psd_exprX (px_fn GX_check_allowed (hr.mono (by decide)) tkX (pad_cons (pd_var 0) pad_nil) (eCons_len eNil_len)))
  (pss_oneD (psd_ret ((pn_sortedT (by rfl) T.n_sorted (PN.l (pn_lc (own := [("tyres", 1), ("row", 2)]) rfl sc_reachable.nd ((pid_seq (pd_fn G_find_rows (hr.mono (by decide)) (pad_cons (pd_var 0) pad_nil) (eCons_len eNil_len))).l) (blkOk_by (by kernel_rfl)) (fun _ _ _ _ _ => (pgd_tup rfl (pgsd_cons (pgd_name (i := 1) sc_reachable.nd) (pgsd_cons (pgd_name (i := 2) sc_reachable.nd) pgsd_nil)) hs2_len)) (fun _ _ _ _ _ => ptsd_nil) (fun _ _ _ _ _ => (pd_var 1)))))).d)))⟩) (fun _ => rfl)
theorem ok_exchange {fd : FuncData} (T : Txt K mg) (F : FnP K "exchange" s_exchange (He.ga K "exchange") fd)  : Known P w K mg base 1 "exchange" m_exchange 2 :=
  known_mk (g := b_exchange) F T.g_exchange sc_exchange (by decide) rfl (fun _ _ _ _ _ _ us hl => match us, hl with | [_, _], _ => rfl) (fun cdv A outer s H E hr => ⟨_, (pss_consD (psd_own (i := 2) sc_exchange.nd (pn_listD (by rfl) T.n_list (pd_var 0)))
  (pss_consD (psd_for PassesOwn.never rfl ((pid_enumT (by rfl) T.n_enumerate (pd_var 1))) (pgd_tupW rfl (pgsd_cons (pgd_name (i := 3) sc_exchange.nd) (pgsd_cons (pgd_name (i := 4) sc_exchange.nd) pgsd_nil)) hs2_len)
  (pss_oneD (psd_put 2 (pd_ix (pd_var 0) (pd_var 3)) (pd_var 4))))
  (pss_oneD (psd_ret (pd_tupleL (by rfl) T.n_tuple (pl_own 2))))))⟩) (fun _ => rfl)
theorem ok_naive_order {fd : FuncData} (T : Txt K mg) (F : FnP K "naive_order" s_naive_order (He.ga K "naive_order") fd) (G_check_pattern : Known P w K mg base 3 "check_pattern" m_check_pattern 1) (G_exchange : Known P w K mg base 1 "exchange" m_exchange 2) : Known P w K mg base 4 "naive_order" m_naive_order 1 :=
  known_mk (g := b_naive_order) F T.g_naive_order sc_naive_order (by decide) rfl (fun _ _ _ _ _ _ us hl => match us, hl with | [_], _ => rfl) (fun cdv A outer s H E hr => ⟨_, (pss_consD (psd_expr (pd_fn G_check_pattern (hr.mono (by decide)) (pad_cons (pd_var 0) pad_nil) (eCons_len eNil_len)))
  (pss_consD (psd_set (i := 1) sc_naive_order.nd (pd_tupR rfl (by rfl) T.n_tuple (by rfl) T.n_range (pd_len T.n_len (PD.b (pd_var 0)))))
  (pss_consD (psd_par rfl sc_naive_order.nd (pam_dat (pd_fn G_exchange (hr.mono (by decide)) (pad_cons (pd_var 1) (pad_cons (pd_var 0) pad_nil)) (eCons_len (eCons_len eNil_len))) (pam_dat pd_int pam_nil)) (mDat_len (mDat_len mNil_len)))
  (pss_consD (psd_while FUEL PassesOwn.never (pt_ne (u64 hr) (PD.b (pd_var 2)) (PD.b (pd_var 1)))
  (pss_oneD (psd_par rfl sc_naive_order.nd (pam_dat (pd_fn G_exchange (hr.mono (by decide)) (pad_cons (pd_var 2) (pad_cons (pd_var 0) pad_nil)) (eCons_len (eCons_len eNil_len))) (pam_dat (pd_add (pd_var 3) pd_int) pam_nil)) (mDat_len (mDat_len mNil_len)))))
  (pss_oneD (psd_ret (pd_var 3)))))))⟩) (fun _ => rfl)
theorem okx_naive_order {fd : FuncData} (T : Txt K mg) (F : FnP K "naive_order" s_naive_order (He.ga K "naive_order") fd) (G_exchange : Known P w K mg base 1 "exchange" m_exchange 2) (GX_check_pattern : KnownX P w K mg base 3 "check_pattern" x_check_pattern 1) : KnownX P w K mg base 4 "naive_order" x_naive_order 1 :=
  known_mkX (g := bx_naive_order) F T.g_naive_order sc_naive_order (by decide) rfl (fun _ _ _ _ _ _ us hl => match us, hl with | [_], _ => rfl) (fun cdv A outer s H E hr => ⟨_, (pss_consD (psd_exprX (px_fn GX_check_pattern (hr.mono (by decide)) tkX (pad_cons (pd_var 0) pad_nil) (eCons_len eNil_len)))
  (pss_consD (psd_set (i := 1) sc_naive_order.nd (pd_tupR rfl (by rfl) T.n_tuple (by rfl) T.n_range (pd_len T.n_len (PD.b (pd_var 0)))))
  (pss_consD (psd_par rfl sc_naive_order.nd (pam_dat (pd_fn G_exchange (hr.mono (by decide)) (pad_cons (pd_var 1) (pad_cons (pd_var 0) pad_nil)) (eCons_len (eCons_len eNil_len))) (pam_dat pd_int pam_nil)) (mDat_len (mDat_len mNil_len)))
  (pss_consD (psd_while FUEL poX (pt_ne (u64 hr) (PD.b (pd_var 2)) (PD.b (pd_var 1)))
  (pss_oneD (psd_par rfl sc_naive_order.nd (pam_dat (pd_fn G_exchange (hr.mono (by decide)) (pad_cons (pd_var 2) (pad_cons (pd_var 0) pad_nil)) (eCons_len (eCons_len eNil_len))) (pam_dat (pd_add (pd_var 3) pd_int) pam_nil)) (mDat_len (mDat_len mNil_len)))))
  (pss_oneD (psd_ret (pd_var 3)))))))⟩) (fun _ => rfl)
theorem ok_naive_reachable {fd : FuncData} (T : Txt K mg) (F : FnP K "naive_reachable" s_naive_reachable (He.ga K "naive_reachable") fd) (G_check_allowed : Known P w K mg base 4 "check_allowed" m_check_allowed 1) (G_exchange : Known P w K mg base 1 "exchange" m_exchange 2) : Known P w K mg base 5 "naive_reachable" m_naive_reachable 1 :=
  known_mk (g := b_naive_reachable) F T.g_naive_reachable sc_naive_reachable (by decide) rfl (fun _ _ _ _ _ _ us hl => match us, hl with | [_], _ => rfl) (fun cdv A outer s H E hr => ⟨_, (pss_consD (psd_expr (pd_fn G_check_allowed (hr.mono (by decide)) (pad_cons (pd_var 0) pad_nil) (eCons_len eNil_len)))
  (pss_consD (psd_par rfl sc_naive_reachable.nd (pam_own (pn_lst (pad_cons (pd_tupR rfl (by rfl) T.n_tuple (by rfl) T.n_range (pd_len T.n_len (PD.b (pd_ix (pd_var 0) pd_int)))) pad_nil)) (pam_dat pd_int pam_nil)) (mOwn_len (mDat_len mNil_len)))
  (pss_consD (psd_while FUEL PassesOwn.never (pt_lt (PD.b (pd_var 2)) (PD.b (pd_len T.n_len (PL.b (pl_own 1)))))
  (pss_consD (psd_par rfl sc_naive_reachable.nd (pam_dat (pd_len T.n_len (PL.b (pl_own 1))) (pam_dat ((pn_listL (by rfl) T.n_list (pl_own 1))).d pam_nil)) (mDat_len (mDat_len mNil_len)))
  (pss_oneD (psd_for PassesOwn.never rfl ((pid_seq (pd_var 3))) (pgd_name (i := 4) sc_naive_reachable.nd)
  (pss_oneD (psd_for PassesOwn.never rfl ((pid_seq (pd_var 0))) (pgd_name (i := 5) sc_naive_reachable.nd)
  (pss_consD (psd_set (i := 6) sc_naive_reachable.nd (pd_fn G_exchange (hr.mono (by decide)) (pad_cons (pd_var 4) (pad_cons (pd_var 5) pad_nil)) (eCons_len (eCons_len eNil_len))))
  (pss_oneD (psd_if (pt_notIn (u65 hr) (PD.b (pd_var 6)) (PL.b (pl_own 1)))
  (pss_oneD (psd_app 1 (pd_var 6)))
  pss_nilD)))))))))
  (pss_oneD (psd_ret ((pn_sortedT (by rfl) T.n_sorted (pl_own 1))).d)))))⟩) (fun _ => rfl)
theorem okx_naive_reachable {fd : FuncData} (T : Txt K mg) (F : FnP K "naive_reachable" s_naive_reachable (He.ga K "naive_reachable") fd) (G_exchange : Known P w K mg base 1 "exchange" m_exchange 2) (GX_check_allowed : KnownX P w K mg base 4 "check_allowed" x_check_allowed 1) : KnownX P w K mg base 5 "naive_reachable" x_naive_reachable 1 :=
  known_mkX (g := bx_naive_reachable) F T.g_naive_reachable sc_naive_reachable (by decide) rfl (fun _ _ _ _ _ _ us hl => match us, hl with | [_], _ => rfl) (fun cdv A outer s H E hr => ⟨_, (pss_consD (psd_exprX (px_fn GX_check_allowed (hr.mono (by decide)) tkX (pad_cons (pd_var 0) pad_nil) (eCons_len eNil_len)))
  (pss_consD (psd_par rfl sc_naive_reachable.nd (pam_own (pn_lst (pad_cons (pd_tupR rfl (by rfl) T.n_tuple (by rfl) T.n_range (pd_len T.n_len (PD.b (pd_ix (pd_var 0) pd_int)))) pad_nil)) (pam_dat pd_int pam_nil)) (mOwn_len (mDat_len mNil_len)))
  (pss_consD (psd_while FUEL poX (pt_lt (PD.b (pd_var 2)) (PD.b (pd_len T.n_len (PL.b (pl_own 1)))))
  (pss_consD (psd_par rfl sc_naive_reachable.nd (pam_dat (pd_len T.n_len (PL.b (pl_own 1))) (pam_dat ((pn_listL (by rfl) T.n_list (pl_own 1))).d pam_nil)) (mDat_len (mDat_len mNil_len)))
  (pss_oneD (psd_for poX rfl ((pid_seq (pd_var 3))) (pgd_name (i := 4) sc_naive_reachable.nd)
  (pss_oneD (psd_for poX rfl ((pid_seq (pd_var 0))) (pgd_name (i := 5) sc_naive_reachable.nd)
  (pss_consD (psd_set (i := 6) sc_naive_reachable.nd (pd_fn G_exchange (hr.mono (by decide)) (pad_cons (pd_var 4) (pad_cons (pd_var 5) pad_nil)) (eCons_len (eCons_len eNil_len))))
  (pss_oneD (psd_if (pt_notIn (u65 hr) (PD.b (pd_var 6)) (PL.b (pl_own 1)))
  (pss_oneD (psd_app 1 (pd_var 6)))
  pss_nilD)))))))))
  (pss_oneD (psd_ret ((pn_sortedT (by rfl) T.n_sorted (pl_own 1))).d)))))⟩) (fun _ => rfl)
theorem ok__law_drawn {fd : FuncData} (T : Txt K mg) (F : FnP K "_law_drawn" s__law_drawn (He.ga K "_law_drawn") fd)  : Known P w K mg base 1 "_law_drawn" m__law_drawn 3 :=
  known_mk (g := b__law_drawn) F T.g__law_drawn sc__law_drawn (by decide) rfl (fun _ _ _ _ _ _ us hl => match us, hl with | [_, _, _], _ => rfl) (fun cdv A outer s H E hr => ⟨_, (pss_consD (psd_set (i := 3) sc__law_drawn.nd (pd_mul pd_int (pd_var 1)))
  (pss_consD (psd_if (pt_ne (u64 hr) (PD.b (pd_var 0)) (PL.b (PN.l (pn_lst pad_nil))))
  (pss_consD (psd_set (i := 3) sc__law_drawn.nd (pd_ix (pd_var 0) (pd_mod (pd_var 1) (pd_len T.n_len (PD.b (pd_var 0))))))
  (pss_consD (psd_set (i := 4) sc__law_drawn.nd (pd_div (pd_var 1) (pd_len T.n_len (PD.b (pd_var 0)))))
  (pss_consD (psd_if (PWd.tt (pw_andD (pt_ge (PD.b (pd_var 3)) (PD.b (pd_pow pd_int pd_int))) (pw_and1D (pt_lt (PD.b (pd_var 4)) (PD.b pd_int)))))
  (pss_consD (psd_set (i := 5) sc__law_drawn.nd (pd_div (pd_var 3) (pd_pow pd_int pd_int)))
  (pss_consD (psd_while FUEL PassesOwn.never (PWd.tt (pw_andD (pt_gt (PD.b (pd_var 5)) (PD.b pd_int)) (pw_and1D (pt_gt (PD.b (pd_var 4)) (PD.b pd_int)))))
  (pss_consD (psd_set (i := 5) sc__law_drawn.nd (pd_div (pd_var 5) pd_int))
  (pss_oneD (psd_set (i := 4) sc__law_drawn.nd (pd_sub (pd_var 4) pd_int)))))
  (pss_oneD (psd_if (pt_gt (PD.b (pd_var 5)) (PD.b pd_int))
  (pss_oneD (psd_ret (pd_mod (pd_mod (pd_var 5) pd_int) (pd_var 2))))
  pss_nilD))))
  pss_nilD)
  (pss_oneD (psd_set (i := 3) sc__law_drawn.nd (pd_add (pd_var 3) (pd_mul pd_int (pd_div (pd_var 1) (pd_len T.n_len (PD.b (pd_var 0)))))))))))
  pss_nilD)
  (pss_consD (psd_set (i := 3) sc__law_drawn.nd (pd_mod (pd_add (pd_mul (pd_mod (pd_var 3) pd_int) pd_int) (pd_mul pd_int (pd_add (pd_var 1) pd_int))) pd_int))
  (pss_consD (psd_set (i := 3) sc__law_drawn.nd (pd_mod (pd_add (pd_mul (pd_var 3) (pd_var 3)) (pd_div (pd_var 3) pd_int)) pd_int))
  (pss_oneD (psd_ret (pd_mod (pd_div (pd_mod (pd_add (pd_mul (pd_var 3) (pd_var 3)) (pd_div (pd_var 3) pd_int)) pd_int) pd_int) (pd_var 2))))))))⟩) (fun _ => rfl)
theorem ok__law_pattern {fd : FuncData} (T : Txt K mg) (F : FnP K "_law_pattern" s__law_pattern (He.ga K "_law_pattern") fd) (G__law_drawn : Known P w K mg base 1 "_law_drawn" m__law_drawn 3) : Known P w K mg base 2 "_law_pattern" m__law_pattern 3 :=
  known_mk (g := b__law_pattern) F T.g__law_pattern sc__law_pattern (by decide) rfl (fun _ _ _ _ _ _ us hl => match us, hl with | [_, _, _], _ => rfl) (fun cdv A outer s H E hr => ⟨_, (pss_consD (psd_par rfl sc__law_pattern.nd (pam_own (pn_listR rfl (by rfl) T.n_list (by rfl) T.n_range (pd_var 2)) (pam_own (pn_lst pad_nil) pam_nil)) (mOwn_len (mOwn_len mNil_len)))
  (pss_consD (psd_for PassesOwn.never rfl ((pid_range1 (by rfl) T.n_range (pd_var 2))) (pgd_name (i := 5) sc__law_pattern.nd)
  (pss_oneD (psd_apppop 4 3 (by decide) (pd_fn G__law_drawn (hr.mono (by decide)) (pad_cons (pd_var 0) (pad_cons (pd_add (pd_var 1) (pd_var 5)) (pad_cons (pd_len T.n_len (PL.b (pl_own 3))) pad_nil))) (eCons_len (eCons_len (eCons_len eNil_len)))))))
  (pss_oneD (psd_ret (pd_tupleL (by rfl) T.n_tuple (pl_own 4))))))⟩) (fun _ => rfl)
theorem ok__law_program {fd : FuncData} (T : Txt K mg) (F : FnP K "_law_program" s__law_program (He.ga K "_law_program") fd) (G__law_drawn : Known P w K mg base 1 "_law_drawn" m__law_drawn 3) (G__law_pattern : Known P w K mg base 2 "_law_pattern" m__law_pattern 3) : Known P w K mg base 3 "_law_program" m__law_program 2 :=
  known_mk (g := b__law_program) F T.g__law_program sc__law_program (by decide) rfl (fun _ _ _ _ _ _ us hl => match us, hl with | [_, _], _ => rfl) (fun cdv A outer s H E hr => ⟨_, (pss_consD (psd_set (i := 2) sc__law_program.nd (pd_add pd_int (pd_fn G__law_drawn (hr.mono (by decide)) (pad_cons (pd_var 0) (pad_cons (pd_var 1) (pad_cons pd_int pad_nil))) (eCons_len (eCons_len (eCons_len eNil_len))))))
  (pss_oneD (psd_ret (pd_tupleL (by rfl) T.n_tuple (PN.l (pn_lc (own := [("_law_k", 3)]) rfl sc__law_program.nd ((pid_range1 (by rfl) T.n_range (pd_add pd_int (pd_fn G__law_drawn (hr.mono (by decide)) (pad_cons (pd_var 0) (pad_cons (pd_add (pd_var 1) pd_int) (pad_cons pd_int pad_nil))) (eCons_len (eCons_len (eCons_len eNil_len)))))).l) (blkOk_by (by kernel_rfl)) (fun _ _ _ _ _ => (pgd_name (i := 3) sc__law_program.nd)) (fun _ _ _ _ _ => ptsd_nil) (fun _ _ _ _ _ => (pd_fn G__law_pattern (hr.mono (by decide)) (pad_cons (pd_var 0) (pad_cons (pd_add (pd_add (pd_var 1) pd_int) (pd_mul pd_int (pd_var 3))) (pad_cons (pd_var 2) pad_nil))) (eCons_len (eCons_len (eCons_len eNil_len)))))))))))⟩) (fun _ => rfl)
theorem ok__law_moved {fd : FuncData} (T : Txt K mg) (F : FnP K "_law_moved" s__law_moved (He.ga K "_law_moved") fd)  : Known P w K mg base 1 "_law_moved" m__law_moved 2 :=
  known_mk (g := b__law_moved) F T.g__law_moved sc__law_moved (by decide) rfl (fun _ _ _ _ _ _ us hl => match us, hl with | [_, _], _ => rfl) (fun cdv A outer s H E hr => ⟨_, (pss_oneD (psd_ret (pd_tupleL (by rfl) T.n_tuple (PN.l (pn_lc (own := [("_law_place", 2)]) rfl sc__law_moved.nd ((pid_range1 (by rfl) T.n_range (pd_len T.n_len (PD.b (pd_var 1)))).l) (blkOk_by (by kernel_rfl)) (fun _ _ _ _ _ => (pgd_name (i := 2) sc__law_moved.nd)) (fun _ _ _ _ _ => ptsd_nil) (fun _ _ _ _ _ => (pd_ix (pd_var 0) (pd_index (PD.b (pd_var 1)) (PD.b (pd_var 2))))))))))⟩) (fun _ => rfl)
theorem ok__law_turn {fd : FuncData} (T : Txt K mg) (F : FnP K "_law_turn" s__law_turn (He.ga K "_law_turn") fd) (G__law_moved : Known P w K mg base 1 "_law_moved" m__law_moved 2) : Known P w K mg base 2 "_law_turn" m__law_turn 1 :=
  known_mk (g := b__law_turn) F T.g__law_turn sc__law_turn (by decide) rfl (fun _ _ _ _ _ _ us hl => match us, hl with | [_], _ => rfl) (fun cdv A outer s H E hr => ⟨_, (pss_consD (psd_set (i := 1) sc__law_turn.nd (pd_tupleL (by rfl) T.n_tuple (PN.l (pn_listR rfl (by rfl) T.n_list (by rfl) T.n_range (pd_len T.n_len (PD.b (pd_ix (pd_var 0) pd_int)))))))
  (pss_consD (psd_par rfl sc__law_turn.nd (pam_own (pn_lst pad_nil) (pam_dat (pd_var 1) pam_nil)) (mOwn_len (mDat_len mNil_len)))
  (pss_consD (psd_while FUEL PassesOwn.never (PWd.tt (pw_orD (pt_eq (u64 hr) (PL.b (pl_own 2)) (PL.b (PN.l (pn_lst pad_nil)))) (pw_orD (pt_ne (u64 hr) (PD.b (pd_var 3)) (PD.b (pd_var 1))) (pw_or1D (pt_ne (u64 hr) (PD.b (pd_mod (pd_len T.n_len (PL.b (pl_own 2))) (pd_len T.n_len (PD.b (pd_var 0))))) (PD.b pd_int))))))
  (pss_consD (psd_app 2 (pd_var 3))
  (pss_oneD (psd_set (i := 3) sc__law_turn.nd (pd_fn G__law_moved (hr.mono (by decide)) (pad_cons (pd_var 3) (pad_cons (pd_ix (pd_var 0) (pd_mod (pd_sub (pd_len T.n_len (PL.b (pl_own 2))) pd_int) (pd_len T.n_len (PD.b (pd_var 0))))) pad_nil)) (eCons_len (eCons_len eNil_len)))))))
  (pss_oneD (psd_fz 2 (psd_ret (pd_var 2)))))))⟩) (fun _ => rfl)
theorem ok__law_badpattern {fd : FuncData} (T : Txt K mg) (F : FnP K "_law_badpattern" s__law_badpattern (He.ga K "_law_badpattern") fd) (G__law_drawn : Known P w K mg base 1 "_law_drawn" m__law_drawn 3) : Known P w K mg base 2 "_law_badpattern" m__law_badpattern 2 :=
  known_mk (g := b__law_badpattern) F T.g__law_badpattern sc__law_badpattern (by decide) rfl (fun _ _ _ _ _ _ us hl => match us, hl with | [_, _], _ => rfl) (fun cdv A outer s H E hr => ⟨_, (pss_consD (psd_set (i := 2) sc__law_badpattern.nd ((pn_lst (pad_cons pd_non (pad_cons (pd_tup pad_nil) (pad_cons (pd_tup (pad_cons pd_int (pad_cons pd_int pad_nil))) (pad_cons (pd_tup (pad_cons pd_int (pad_cons pd_int (pad_cons pd_int pad_nil)))) (pad_cons (pd_tup (pad_cons pd_int (pad_cons pd_int (pad_cons pd_int pad_nil)))) (pad_cons (pd_tup (pad_cons pd_int (pad_cons pd_int (pad_cons pd_int pad_nil)))) (pad_cons ((pn_lst (pad_cons pd_int (pad_cons pd_int (pad_cons pd_int pad_nil))))).d (pad_cons (pd_tup (pad_cons pd_int (pad_cons pd_int (pad_cons pd_int (pad_cons pd_int (pad_cons pd_int (pad_cons pd_int pad_nil))))))) pad_nil)))))))))).d)
  (pss_consD (psd_set (i := 2) sc__law_badpattern.nd ((pn_cat (PD.l (pd_var 2)) (PN.l (pn_lst (pad_cons (pd_tup (pad_cons pd_int (pad_cons pd_bl (pad_cons pd_int pad_nil)))) (pad_cons (pd_tup (pad_cons pd_int (pad_cons pd_str (pad_cons pd_int pad_nil)))) (pad_cons pd_int pad_nil))))))).d)
  (pss_oneD (psd_ret (pd_ix (pd_var 2) (pd_fn G__law_drawn (hr.mono (by decide)) (pad_cons (pd_var 0) (pad_cons (pd_var 1) (pad_cons pd_int pad_nil))) (eCons_len (eCons_len (eCons_len eNil_len)))))))))⟩) (fun _ => rfl)
theorem ok__law_error {fd : FuncData} (T : Txt K mg) (F : FnP K "_law_error" s__law_error (He.ga K "_law_error") fd) (GX_naive_reachable : KnownX P w K mg base 5 "naive_reachable" x_naive_reachable 1) (GX_naive_order : KnownX P w K mg base 4 "naive_order" x_naive_order 1) : Known P w K mg base 6 "_law_error" m__law_error 2 :=
  known_mk (g := b__law_error) F T.g__law_error sc__law_error (by decide) rfl (fun _ _ _ _ _ _ us hl => match us, hl with | [_, _], _ => rfl) (fun cdv A outer s H E hr => ⟨_, (pss_consD (psd_try (i := 2) (cs := ["InvalidPattern", "InvalidAllowed"]) (h := fun c => (sRet (e2 dIndex (eOfL (eLst (eCons (eOfB (eKb (isX c "InvalidPattern"))) (eCons (eOfB (eKb (isX c "InvalidAllowed"))) eNil)))) (eC (.bool true))))) rfl rfl sc__law_error.nd rfl rfl ⟨by rfl, by decide, .inl T.g_TyreError⟩ T.xs.xm (fun W pn xe tk po => (pss_oneD (psd_exprX (px_callL tk (KnL.cons GX_naive_order (hr.mono (by decide)) (KnL.cons GX_naive_reachable (hr.mono (by decide)) KnL.nil)) (pan_cons T.g_naive_order (pan_cons T.g_naive_reachable pan_nil)) (by decide) (pd_var 0) (pad_cons (pd_var 1) pad_nil) (eCons_len eNil_len)))))
 (fun c hc a oe pn hz hf => (pss_oneD (psd_ret (pd_index (PL.b (PN.l (pn_lst (pad_cons (PO'.d (po_isE (i := 2) (T.xs.xs c hc) hz hf (T.xs.xk c hc "InvalidPattern" (by decide)) T.g_InvalidPattern T.n_isinstance)) (pad_cons (PO'.d (po_isE (i := 2) (T.xs.xs c hc) hz hf (T.xs.xk c hc "InvalidAllowed" (by decide)) T.g_InvalidAllowed T.n_isinstance)) pad_nil))))) (PD.b pd_bl)))))
 (by intro c a; repeat' (first | exact bl_exc | exact bl_C | exact bl_nil | exact bl_var (by decide) | exact bl_own (by decide) | apply bs_ret | apply bs_setSeq (by decide) | apply bl_e2 | apply bl_e1 | apply bl_cons | apply bl_lst | apply bl_tup | apply bl_ofB | apply bl_ofL | apply bl_toL | apply bl_toB | apply bl_l2 | apply bl_if)))
  (pss_oneD (psd_ret pd_non)))⟩) (fun _ => rfl)
theorem ok__law_reached {fd : FuncData} (T : Txt K mg) (F : FnP K "_law_reached" s__law_reached (He.ga K "_law_reached") fd) (G__law_moved : Known P w K mg base 1 "_law_moved" m__law_moved 2) : Known P w K mg base 2 "_law_reached" m__law_reached 1 :=
  known_mk (g := b__law_reached) F T.g__law_reached sc__law_reached (by decide) rfl (fun _ _ _ _ _ _ us hl => match us, hl with | [_], _ => rfl) (fun cdv A outer s H E hr => ⟨_, (pss_consD (psd_set (i := 1) sc__law_reached.nd ((pn_lst (pad_cons (pd_tupleL (by rfl) T.n_tuple (PN.l (pn_listR rfl (by rfl) T.n_list (by rfl) T.n_range (pd_len T.n_len (PD.b (pd_ix (pd_var 0) pd_int)))))) pad_nil))).d)
  (pss_consD (psd_set (i := 2) sc__law_reached.nd ((pn_listD (by rfl) T.n_list (pd_var 1))).d)
  (pss_consD (psd_while FUEL PassesOwn.never (pt_ne (u64 hr) (PD.b (pd_var 2)) (PL.b (PN.l (pn_lst pad_nil))))
  (pss_consD (psd_own (i := 3) sc__law_reached.nd (pn_lst pad_nil))
  (pss_consD (psd_for PassesOwn.never rfl ((pid_seq (pd_var 2))) (pgd_name (i := 4) sc__law_reached.nd)
  (pss_oneD (psd_for PassesOwn.never rfl ((pid_seq (pd_var 0))) (pgd_name (i := 5) sc__law_reached.nd)
  (pss_consD (psd_set (i := 6) sc__law_reached.nd (pd_fn G__law_moved (hr.mono (by decide)) (pad_cons (pd_var 4) (pad_cons (pd_var 5) pad_nil)) (eCons_len (eCons_len eNil_len))))
  (pss_oneD (psd_if (pt_notIn (u65 hr) (PD.b (pd_var 6)) (PL.b (PN.l (pn_cat (PD.l (pd_var 1)) (pl_own 3)))))
  (pss_oneD (psd_app 3 (pd_var 6)))
  pss_nilD))))))
  (pss_oneD (psd_fz 3 (psd_par rfl sc__law_reached.nd (pam_dat (pd_add (pd_var 1) (pd_var 3)) (pam_dat (pd_var 3) pam_nil)) (mDat_len (mDat_len mNil_len))))))))
  (pss_oneD (psd_ret (pd_var 1))))))⟩) (fun _ => rfl)
theorem okF_law {fd : FuncData} (T : Txt K mg) (F : FnP K "law" s_law (He.ga K "law") fd) (G__law_program : Known P w K mg base 3 "_law_program" m__law_program 2) (G__law_turn : Known P w K mg base 2 "_law_turn" m__law_turn 1) (G_naive_order : Known P w K mg base 4 "naive_order" m_naive_order 1) (G_order : Known P w K mg base 4 "order" m_order 1) (G__law_reached : Known P w K mg base 2 "_law_reached" m__law_reached 1) (G_naive_reachable : Known P w K mg base 5 "naive_reachable" m_naive_reachable 1) (G_reachable : Known P w K mg base 5 "reachable" m_reachable 1) (G__law_drawn : Known P w K mg base 1 "_law_drawn" m__law_drawn 3) (G__law_error : Known P w K mg base 6 "_law_error" m__law_error 2) (G__law_badpattern : Known P w K mg base 2 "_law_badpattern" m__law_badpattern 2) : FnOk P w K mg base CX0 7 (He.ga K "law") fd ["_law_script"] (spD K m_law 1) :=
  fnok_mk (g := b_law) F sc_law (by decide) (fun cdv A outer s H E hr => ⟨_, (pss_consD (psd_set (i := 1) sc_law.nd (pd_fn G__law_program (hr.mono (by decide)) (pad_cons (pd_var 0) (pad_cons pd_int pad_nil)) (eCons_len (eCons_len eNil_len))))
  (pss_consD (psd_for PassesOwn.never rfl ((pid_seq (pd_var 1))) (pgd_name (i := 2) sc_law.nd)
  (pss_consD (psd_set (i := 3) sc_law.nd (pd_len T.n_len (PD.b (pd_fn G__law_turn (hr.mono (by decide)) (pad_cons (pd_tup (pad_cons (pd_var 2) pad_nil)) pad_nil) (eCons_len eNil_len)))))
  (pss_oneD (psd_if (PWd.tt (pw_orD (pt_ne (u64 hr) (PD.b (pd_fn G_naive_order (hr.mono (by decide)) (pad_cons (pd_var 2) pad_nil) (eCons_len eNil_len))) (PD.b (pd_var 3))) (pw_or1D (pt_ne (u64 hr) (PD.b (pd_fn G_order (hr.mono (by decide)) (pad_cons (pd_var 2) pad_nil) (eCons_len eNil_len))) (PD.b (pd_var 3))))))
  (pss_oneD (psd_ret pd_bl))
  pss_nilD))))
  (pss_consD (psd_set (i := 4) sc_law.nd ((pn_listD (by rfl) T.n_list (pd_var 1))).d)
  (pss_consD (psd_set (i := 5) sc_law.nd (pd_fn G__law_reached (hr.mono (by decide)) (pad_cons (pd_var 4) pad_nil) (eCons_len eNil_len)))
  (pss_consD (psd_if (PWd.tt (pw_orD (pt_ne (u64 hr) (PD.b (pd_fn G_naive_reachable (hr.mono (by decide)) (pad_cons (pd_var 4) pad_nil) (eCons_len eNil_len))) (PL.b (PN.l (pn_sortedT (by rfl) T.n_sorted (PD.l (pd_var 5)))))) (pw_or1D (pt_ne (u64 hr) (PD.b (pd_fn G_reachable (hr.mono (by decide)) (pad_cons (pd_var 4) pad_nil) (eCons_len eNil_len))) (PL.b (PN.l (pn_sortedT (by rfl) T.n_sorted (PD.l (pd_var 5)))))))))
  (pss_oneD (psd_ret pd_bl))
  pss_nilD)
  (pss_consD (psd_set (i := 6) sc_law.nd (pd_ixL (PN.l (pn_lst (pad_cons pd_non (pad_cons (pd_tup pad_nil) (pad_cons ((pn_lst pad_nil)).d (pad_cons (pd_var 1) (pad_cons ((pn_lst (pad_cons (pd_tup (pad_cons pd_int (pad_cons pd_int (pad_cons pd_int pad_nil)))) pad_nil))).d (pad_cons ((pn_lst (pad_cons (pd_tup (pad_cons pd_int (pad_cons pd_int (pad_cons pd_int pad_nil)))) (pad_cons (pd_tup (pad_cons pd_int (pad_cons pd_int (pad_cons pd_int (pad_cons pd_int pad_nil))))) pad_nil)))).d (pad_cons ((pn_rep (pn_lst (pad_cons (pd_tup (pad_cons pd_int (pad_cons pd_int (pad_cons pd_int pad_nil)))) pad_nil)) pd_int)).d pad_nil))))))))) (pd_fn G__law_drawn (hr.mono (by decide)) (pad_cons (pd_var 0) (pad_cons pd_int (pad_cons pd_int pad_nil))) (eCons_len (eCons_len (eCons_len eNil_len))))))
  (pss_oneD (psd_ret (PO'.d (po_eq (u64 hr) (PL.b (PN.l (pn_lst (pad_cons (pd_fn G__law_error (hr.mono (by decide)) (pad_cons pd_int (pad_cons (pd_fn G__law_badpattern (hr.mono (by decide)) (pad_cons (pd_var 0) (pad_cons pd_int pad_nil)) (eCons_len (eCons_len eNil_len))) pad_nil)) (eCons_len (eCons_len eNil_len))) (pad_cons (pd_fn G__law_error (hr.mono (by decide)) (pad_cons pd_int (pad_cons (pd_var 6) pad_nil)) (eCons_len (eCons_len eNil_len))) pad_nil))))) (PL.b (PN.l (pn_lst (pad_cons pd_int (pad_cons pd_int pad_nil)))))))))))))))⟩) (fun _ => rfl)
end

/-! ### the head: facts by names, the run -/
def d_is_int : He.DefD := ⟨("is_int", none), "is_int", "is_int", defArgs s_is_int, defBody s_is_int, defScope s_is_int, [], []⟩
def d_is_pattern : He.DefD := ⟨("is_pattern", none), "is_pattern", "is_pattern", defArgs s_is_pattern, defBody s_is_pattern, defScope s_is_pattern, [], []⟩
def d_are_patterns : He.DefD := ⟨("are_patterns", none), "are_patterns", "are_patterns", defArgs s_are_patterns, defBody s_are_patterns, defScope s_are_patterns, [], []⟩
def d_check_pattern : He.DefD := ⟨("check_pattern", none), "check_pattern", "check_pattern", defArgs s_check_pattern, defBody s_check_pattern, defScope s_check_pattern, [], []⟩
def d_find_combined : He.DefD := ⟨("find_combined", none), "find_combined", "find_combined", defArgs s_find_combined, defBody s_find_combined, defScope s_find_combined, [], []⟩
def d_find_reversed : He.DefD := ⟨("find_reversed", none), "find_reversed", "find_reversed", defArgs s_find_reversed, defBody s_find_reversed, defScope s_find_reversed, [], []⟩
def d_first_pattern : He.DefD := ⟨("first_pattern", none), "first_pattern", "first_pattern", defArgs s_first_pattern, defBody s_first_pattern, defScope s_first_pattern, [], []⟩
def d_find_order : He.DefD := ⟨("find_order", none), "find_order", "find_order", defArgs s_find_order, defBody s_find_order, defScope s_find_order, [], []⟩
def d_order : He.DefD := ⟨("order", none), "order", "order", defArgs s_order, defBody s_order, defScope s_order, [], []⟩
def d_check_allowed : He.DefD := ⟨("check_allowed", none), "check_allowed", "check_allowed", defArgs s_check_allowed, defBody s_check_allowed, defScope s_check_allowed, [], []⟩
def d_find_rows : He.DefD := ⟨("find_rows", none), "find_rows", "find_rows", defArgs s_find_rows, defBody s_find_rows, defScope s_find_rows, [], []⟩
def d_reachable : He.DefD := ⟨("reachable", none), "reachable", "reachable", defArgs s_reachable, defBody s_reachable, defScope s_reachable, [], []⟩
def d_exchange : He.DefD := ⟨("exchange", none), "exchange", "exchange", defArgs s_exchange, defBody s_exchange, defScope s_exchange, [], []⟩
def d_naive_order : He.DefD := ⟨("naive_order", none), "naive_order", "naive_order", defArgs s_naive_order, defBody s_naive_order, defScope s_naive_order, [], []⟩
def d_naive_reachable : He.DefD := ⟨("naive_reachable", none), "naive_reachable", "naive_reachable", defArgs s_naive_reachable, defBody s_naive_reachable, defScope s_naive_reachable, [], []⟩
def d__law_drawn : He.DefD := ⟨("_law_drawn", none), "_law_drawn", "_law_drawn", defArgs s__law_drawn, defBody s__law_drawn, defScope s__law_drawn, [], []⟩
def d__law_pattern : He.DefD := ⟨("_law_pattern", none), "_law_pattern", "_law_pattern", defArgs s__law_pattern, defBody s__law_pattern, defScope s__law_pattern, [], []⟩
def d__law_program : He.DefD := ⟨("_law_program", none), "_law_program", "_law_program", defArgs s__law_program, defBody s__law_program, defScope s__law_program, [], []⟩
def d__law_moved : He.DefD := ⟨("_law_moved", none), "_law_moved", "_law_moved", defArgs s__law_moved, defBody s__law_moved, defScope s__law_moved, [], []⟩
def d__law_turn : He.DefD := ⟨("_law_turn", none), "_law_turn", "_law_turn", defArgs s__law_turn, defBody s__law_turn, defScope s__law_turn, [], []⟩
def d__law_badpattern : He.DefD := ⟨("_law_badpattern", none), "_law_badpattern", "_law_badpattern", defArgs s__law_badpattern, defBody s__law_badpattern, defScope s__law_badpattern, [], []⟩
def d__law_error : He.DefD := ⟨("_law_error", none), "_law_error", "_law_error", defArgs s__law_error, defBody s__law_error, defScope s__law_error, [], []⟩
def d__law_reached : He.DefD := ⟨("_law_reached", none), "_law_reached", "_law_reached", defArgs s__law_reached, defBody s__law_reached, defScope s__law_reached, [], []⟩
def d_law : He.DefD := ⟨("law", none), "law", "law", defArgs s_law, defBody s_law, defScope s_law, [], []⟩
def fnL : List He.DefD := ([d_is_int, d_is_pattern, d_are_patterns, d_check_pattern, d_find_combined, d_find_reversed, d_first_pattern, d_find_order, d_order, d_check_allowed, d_find_rows, d_reachable, d_exchange, d_naive_order, d_naive_reachable, d__law_drawn, d__law_pattern, d__law_program, d__law_moved, d__law_turn, d__law_badpattern, d__law_error, d__law_reached, d_law] : List He.DefD)
def faL : List He.Fa := ([.glo "TyreError", .glo "InvalidPattern", .glo "InvalidAllowed", .exc "InvalidPattern", .exc "InvalidAllowed", .glo "is_int", .glo "is_pattern", .glo "are_patterns", .glo "check_pattern", .glo "find_combined", .glo "find_reversed", .glo "first_pattern", .glo "find_order", .glo "order", .glo "check_allowed", .glo "find_rows", .glo "reachable", .glo "exchange", .glo "naive_order", .glo "naive_reachable", .glo "_law_drawn", .glo "_law_pattern", .glo "_law_program", .glo "_law_moved", .glo "_law_turn", .glo "_law_badpattern", .glo "_law_error", .glo "_law_reached", .glo "law", .int "MIN_PLACES" 3] : List He.Fa) ++ ([.int "MAX_PLACES" 5, .int "MAX_PATTERNS" 4, .free "all", .free "bool", .free "enumerate", .free "int", .free "isinstance", .free "len", .free "list", .free "range", .free "set", .free "sorted", .free "tuple"] : List He.Fa)
abbrev Rw : PySem.W.OpenRow := PySem.W.OpenLaw.row PySem.Challenge.rw_tyreplaces_k70_whole_naive
def exL : PySem.W.Frag → Bool := exB ["InvalidPattern", "InvalidAllowed"] ["InvalidPattern", "InvalidAllowed"] "TyreError"
abbrev hk : PySem.W.Hook := hookB 4 faL fnL exL
def obs (s : PySem.W.SharedT) : He.AlD × Bool := obsBG 4 faL fnL exL (HandSHeadRun.getT s)
theorem obs_eq (s : PySem.W.SharedT) : obs s = hk.obs s.abs := obsBG_eq (HandSHeadRun.getT_eq s)
def looseL : List Str := ((["TyreError", "InvalidPattern", "InvalidAllowed", "MIN_PLACES", "MAX_PLACES", "MAX_PATTERNS", "is_int", "is_pattern", "are_patterns", "check_pattern", "find_combined", "find_reversed", "first_pattern", "find_order", "order", "check_allowed", "find_rows", "reachable", "exchange", "naive_order", "naive_reachable", "_law_drawn", "_law_pattern", "_law_program", "_law_moved", "_law_turn", "_law_badpattern", "_law_error", "_law_reached"] : List Str))
theorem runL (w : World) : HandSHeadRun.RunEq Rw (PySem.W.view Rw.prog [34]) hk obs 4000 looseL w := by
  intro os
  kernel_rfl
theorem factsL {P : Program} {w : World} {K : PySem.W.Frag} {h : Heap} {mg : Str → Option Value} {f : Addr} (X : K.In h) (G : h.Ns mainGlobals mg) (hfa : mg ("law" : Str) = some (.ref f)) (c : He.SaysD faL fnL K) (cx : exL K = true) :
    ∃ fd : FuncData, (∀ (s : Shared) (v : Value), BindsTo s fd ⟨[v], []⟩ [("_law_script", v)]) ∧ ∀ base : Heap, K.In base → base.Ns mainGlobals mg → FnOk P w K mg base CX0 7 f fd ["_law_script"] (spD K m_law 1) := by
  obtain ⟨fd_is_int, F_is_int⟩ := c.def_ 0 (d := d_is_int) rfl
  obtain ⟨fd_is_pattern, F_is_pattern⟩ := c.def_ 1 (d := d_is_pattern) rfl
  obtain ⟨fd_are_patterns, F_are_patterns⟩ := c.def_ 2 (d := d_are_patterns) rfl
  obtain ⟨fd_check_pattern, F_check_pattern⟩ := c.def_ 3 (d := d_check_pattern) rfl
  obtain ⟨fd_find_combined, F_find_combined⟩ := c.def_ 4 (d := d_find_combined) rfl
  obtain ⟨fd_find_reversed, F_find_reversed⟩ := c.def_ 5 (d := d_find_reversed) rfl
  obtain ⟨fd_first_pattern, F_first_pattern⟩ := c.def_ 6 (d := d_first_pattern) rfl
  obtain ⟨fd_find_order, F_find_order⟩ := c.def_ 7 (d := d_find_order) rfl
  obtain ⟨fd_order, F_order⟩ := c.def_ 8 (d := d_order) rfl
  obtain ⟨fd_check_allowed, F_check_allowed⟩ := c.def_ 9 (d := d_check_allowed) rfl
  obtain ⟨fd_find_rows, F_find_rows⟩ := c.def_ 10 (d := d_find_rows) rfl
  obtain ⟨fd_reachable, F_reachable⟩ := c.def_ 11 (d := d_reachable) rfl
  obtain ⟨fd_exchange, F_exchange⟩ := c.def_ 12 (d := d_exchange) rfl
  obtain ⟨fd_naive_order, F_naive_order⟩ := c.def_ 13 (d := d_naive_order) rfl
  obtain ⟨fd_naive_reachable, F_naive_reachable⟩ := c.def_ 14 (d := d_naive_reachable) rfl
  obtain ⟨fd__law_drawn, F__law_drawn⟩ := c.def_ 15 (d := d__law_drawn) rfl
  obtain ⟨fd__law_pattern, F__law_pattern⟩ := c.def_ 16 (d := d__law_pattern) rfl
  obtain ⟨fd__law_program, F__law_program⟩ := c.def_ 17 (d := d__law_program) rfl
  obtain ⟨fd__law_moved, F__law_moved⟩ := c.def_ 18 (d := d__law_moved) rfl
  obtain ⟨fd__law_turn, F__law_turn⟩ := c.def_ 19 (d := d__law_turn) rfl
  obtain ⟨fd__law_badpattern, F__law_badpattern⟩ := c.def_ 20 (d := d__law_badpattern) rfl
  obtain ⟨fd__law_error, F__law_error⟩ := c.def_ 21 (d := d__law_error) rfl
  obtain ⟨fd__law_reached, F__law_reached⟩ := c.def_ 22 (d := d__law_reached) rfl
  obtain ⟨fd_law, F_law⟩ := c.def_ 23 (d := d_law) rfl
  have T : Txt K mg := ⟨He.glo_ok X G (c.fact 0 (f := .glo "TyreError") rfl), He.glo_ok X G (c.fact 1 (f := .glo "InvalidPattern") rfl), He.glo_ok X G (c.fact 2 (f := .glo "InvalidAllowed") rfl), excK_of (c.fact 3 (f := .exc "InvalidPattern") rfl), excK_of (c.fact 4 (f := .exc "InvalidAllowed") rfl), exB_ok cx, He.glo_ok X G (c.fact 5 (f := .glo "is_int") rfl), He.glo_ok X G (c.fact 6 (f := .glo "is_pattern") rfl), He.glo_ok X G (c.fact 7 (f := .glo "are_patterns") rfl), He.glo_ok X G (c.fact 8 (f := .glo "check_pattern") rfl), He.glo_ok X G (c.fact 9 (f := .glo "find_combined") rfl), He.glo_ok X G (c.fact 10 (f := .glo "find_reversed") rfl), He.glo_ok X G (c.fact 11 (f := .glo "first_pattern") rfl), He.glo_ok X G (c.fact 12 (f := .glo "find_order") rfl), He.glo_ok X G (c.fact 13 (f := .glo "order") rfl), He.glo_ok X G (c.fact 14 (f := .glo "check_allowed") rfl), He.glo_ok X G (c.fact 15 (f := .glo "find_rows") rfl), He.glo_ok X G (c.fact 16 (f := .glo "reachable") rfl), He.glo_ok X G (c.fact 17 (f := .glo "exchange") rfl), He.glo_ok X G (c.fact 18 (f := .glo "naive_order") rfl), He.glo_ok X G (c.fact 19 (f := .glo "naive_reachable") rfl), He.glo_ok X G (c.fact 20 (f := .glo "_law_drawn") rfl), He.glo_ok X G (c.fact 21 (f := .glo "_law_pattern") rfl), He.glo_ok X G (c.fact 22 (f := .glo "_law_program") rfl), He.glo_ok X G (c.fact 23 (f := .glo "_law_moved") rfl), He.glo_ok X G (c.fact 24 (f := .glo "_law_turn") rfl), He.glo_ok X G (c.fact 25 (f := .glo "_law_badpattern") rfl), He.glo_ok X G (c.fact 26 (f := .glo "_law_error") rfl), He.glo_ok X G (c.fact 27 (f := .glo "_law_reached") rfl), He.glo_ok X G (c.fact 28 (f := .glo "law") rfl), He.int_ok X G (c.fact 29 (f := .int "MIN_PLACES" 3) rfl), He.int_ok X G (c.fact 30 (f := .int "MAX_PLACES" 5) rfl), He.int_ok X G (c.fact 31 (f := .int "MAX_PATTERNS" 4) rfl), He.free_ok X G (c.fact 32 (f := .free "all") rfl), He.free_ok X G (c.fact 33 (f := .free "bool") rfl), He.free_ok X G (c.fact 34 (f := .free "enumerate") rfl), He.free_ok X G (c.fact 35 (f := .free "int") rfl), He.free_ok X G (c.fact 36 (f := .free "isinstance") rfl), He.free_ok X G (c.fact 37 (f := .free "len") rfl), He.free_ok X G (c.fact 38 (f := .free "list") rfl), He.free_ok X G (c.fact 39 (f := .free "range") rfl), He.free_ok X G (c.fact 40 (f := .free "set") rfl), He.free_ok X G (c.fact 41 (f := .free "sorted") rfl), He.free_ok X G (c.fact 42 (f := .free "tuple") rfl)⟩
  have e := hfa.symm.trans T.g_law
  cases e
  have b := FunD.bindsA (ps := ["_law_script"]) F_law fun _ _ _ _ _ _ us hl => match us, hl with | [_], _ => rfl
  refine ⟨fd_law, fun s v => b s [v] rfl, fun base _ _ => ?_⟩
  have G_is_int : Known P w K mg base 1 "is_int" m_is_int 3 := ok_is_int T F_is_int 
  have G_is_pattern : Known P w K mg base 2 "is_pattern" m_is_pattern 1 := ok_is_pattern T F_is_pattern G_is_int
  have G_are_patterns : Known P w K mg base 3 "are_patterns" m_are_patterns 1 := ok_are_patterns T F_are_patterns G_is_pattern
  have G_check_pattern : Known P w K mg base 3 "check_pattern" m_check_pattern 1 := ok_check_pattern T F_check_pattern G_is_pattern
  have GX_check_pattern : KnownX P w K mg base 3 "check_pattern" x_check_pattern 1 := okx_check_pattern T F_check_pattern G_is_pattern
  have G_find_combined : Known P w K mg base 1 "find_combined" m_find_combined 2 := ok_find_combined T F_find_combined 
  have G_find_reversed : Known P w K mg base 1 "find_reversed" m_find_reversed 1 := ok_find_reversed T F_find_reversed 
  have G_first_pattern : Known P w K mg base 1 "first_pattern" m_first_pattern 1 := ok_first_pattern T F_first_pattern 
  have G_find_order : Known P w K mg base 2 "find_order" m_find_order 1 := ok_find_order T F_find_order G_first_pattern G_find_combined
  have G_order : Known P w K mg base 4 "order" m_order 1 := ok_order T F_order G_check_pattern G_find_order
  have GX_order : KnownX P w K mg base 4 "order" x_order 1 := okx_order T F_order G_find_order GX_check_pattern
  have G_check_allowed : Known P w K mg base 4 "check_allowed" m_check_allowed 1 := ok_check_allowed T F_check_allowed G_are_patterns
  have GX_check_allowed : KnownX P w K mg base 4 "check_allowed" x_check_allowed 1 := okx_check_allowed T F_check_allowed G_are_patterns
  have G_find_rows : Known P w K mg base 2 "find_rows" m_find_rows 1 := ok_find_rows T F_find_rows G_first_pattern G_find_combined G_find_reversed
  have G_reachable : Known P w K mg base 5 "reachable" m_reachable 1 := ok_reachable T F_reachable G_check_allowed G_find_rows
  have GX_reachable : KnownX P w K mg base 5 "reachable" x_reachable 1 := okx_reachable T F_reachable G_find_rows GX_check_allowed
  have G_exchange : Known P w K mg base 1 "exchange" m_exchange 2 := ok_exchange T F_exchange 
  have G_naive_order : Known P w K mg base 4 "naive_order" m_naive_order 1 := ok_naive_order T F_naive_order G_check_pattern G_exchange
  have GX_naive_order : KnownX P w K mg base 4 "naive_order" x_naive_order 1 := okx_naive_order T F_naive_order G_exchange GX_check_pattern
  have G_naive_reachable : Known P w K mg base 5 "naive_reachable" m_naive_reachable 1 := ok_naive_reachable T F_naive_reachable G_check_allowed G_exchange
  have GX_naive_reachable : KnownX P w K mg base 5 "naive_reachable" x_naive_reachable 1 := okx_naive_reachable T F_naive_reachable G_exchange GX_check_allowed
  have G__law_drawn : Known P w K mg base 1 "_law_drawn" m__law_drawn 3 := ok__law_drawn T F__law_drawn 
  have G__law_pattern : Known P w K mg base 2 "_law_pattern" m__law_pattern 3 := ok__law_pattern T F__law_pattern G__law_drawn
  have G__law_program : Known P w K mg base 3 "_law_program" m__law_program 2 := ok__law_program T F__law_program G__law_drawn G__law_pattern
  have G__law_moved : Known P w K mg base 1 "_law_moved" m__law_moved 2 := ok__law_moved T F__law_moved 
  have G__law_turn : Known P w K mg base 2 "_law_turn" m__law_turn 1 := ok__law_turn T F__law_turn G__law_moved
  have G__law_badpattern : Known P w K mg base 2 "_law_badpattern" m__law_badpattern 2 := ok__law_badpattern T F__law_badpattern G__law_drawn
  have G__law_error : Known P w K mg base 6 "_law_error" m__law_error 2 := ok__law_error T F__law_error GX_naive_reachable GX_naive_order
  have G__law_reached : Known P w K mg base 2 "_law_reached" m__law_reached 1 := ok__law_reached T F__law_reached G__law_moved
  exact okF_law T F_law G__law_program G__law_turn G_naive_order G_order G__law_reached G_naive_reachable G_reachable G__law_drawn G__law_error G__law_badpattern
end DL
open PySem PySem.W PySem.Calls PyProof.Rows
set_option maxHeartbeats 0 in
theorem PySem.Challenge.cw_tyreplaces_k70_whole_naive_holds : PySem.Challenge.rw_tyreplaces_k70_whole_naive.Holds := by
  w_on; o_law
  refine HandSHeadRun.head_any (r := OpenLaw.row PySem.Challenge.rw_tyreplaces_k70_whole_naive) (q := view (OpenLaw.row PySem.Challenge.rw_tyreplaces_k70_whole_naive).prog [34]) (H := DL.hk) (ob := DL.obs) (M := 4000) (loose := DL.looseL) (d := HandSHeadRun.topDef (OpenLaw.row PySem.Challenge.rw_tyreplaces_k70_whole_naive).prog 34) (kwd := []) DL.obs_eq
    (by kernel_rfl) (fun s => by kernel_rfl) DL.runL (by kernel_rfl) (by kernel_rfl) (by kernel_rfl) (by rfl) (by first | assumption | decide +kernel) (by decide +kernel) ⟨rfl, rfl, rfl, rfl, rfl, by decide +kernel⟩ ?hw ?hc
  case hw => w_witness2
  case hc =>
    refine L2.walk_ofE (l := PySem.Challenge.rw_tyreplaces_k70_whole_naive) (n := 63) (k := 7) (x := "_law_script") (CX := L2.CX0) rfl (by decide) (by kernel_rfl) ⟨rfl, by decide, by decide⟩ ?F (fun _ _ _ _ z => z)
    intro w mg fa h Y G hmg0
    obtain ⟨K, KX, c, cx⟩ := Y
    have hmg : mg ("law" : PySem.Str) = some (.ref fa) := by
      have e : (HandSHeadRun.topDef (OpenLaw.row PySem.Challenge.rw_tyreplaces_k70_whole_naive).prog 34).name = ("law" : PySem.Str) := by kernel_rfl
      rw [← e]
      exact hmg0
    obtain ⟨fd, hb, hF⟩ := DL.factsL (P := (PySem.Challenge.rw_tyreplaces_k70_whole_naive).prog) (w := w) KX G hmg c cx
    exact ⟨K, fd, DL.spD K DL.m_law 1, KX, hb, fun H a ns hl _ hS => DL.sp_law hS (DL.law_true ns hl), hF⟩
